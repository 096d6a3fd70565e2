/-
  The walks over kinds: of the program and of the reference.
-/
import Derived.Test.YtjeehkdepoiegaaGreatAbsM
import Derived.Test.YtjeehkdepoiegaaGreatPlnM
import Derived.Test.YtjeehkdepoiegaaGreatFacts
namespace Go.Proofs.YtjeehkdepoiegaaGreat
open Go.AL Go.RowKit
set_option linter.unusedSimpArgs false
set_option linter.unusedVariables false
set_option maxRecDepth 10000
set_option maxHeartbeats 4000000
def boolsV (l : List Bool) : AV := .ro 1 (l.map fun b => [.lit (.bool b)])
def dd101 : Nat → List (List Nat)
  | 0 => [[], [5]]
  | 1 => [[], [1], [], []]
  | 2 => [[], []]
  | 3 => [[11], [], [12], [13]]
  | 4 => [[], [], [7], [14, 15], [16], [], [17, 18]]
  | 5 => [[0, 2, 8, 9, 10, 19], []]
  | 6 => [[19], [10], [20]]
  | 7 => [[0, 2, 8, 9, 10, 11], []]
  | _ => []
theorem takes_1 (l : List Bool) (t : Bool) (a : Int) (x : Bool) (h1 : 0 ≤ a) (h2 : a < l.length) (hl : l.length ≤ 1000) (hx : l.getD a.toNat default = x) : ACall Tryz.prog 101 [.lit (.bool t), .ro 1 [[.lit (.int .i64 a)]], .rop [boolsV l]] (.lit (.bool (x == t))) := by
  unfold boolsV
  refine acall_of (n := 21) (rs := [.tmp 5]) Tryz.func101 rfl (by kernel_rfl) rfl rfl rfl ?_; simp only [argsE, Nat.reduceAdd]
  repeat (any_goals (first | (refine aops_cons (fun K' h' => ?_); simp only [go_sem, Nat.reduceLT, Nat.reduceLeDiff, Nat.reduceEqDiff, reduceIte, Nat.reduceAdd, Nat.reduceMul, Nat.reduceSub, Int.reduceLT, Int.reduceLE, Int.reduceToNat, Int.reduceNeg, reduceCtorEq, Node.cells, hx, Int.zero_add]; (try simp (disch := omega) only [wrap_id, getD_map_in, Int.toNat_natCast, Node.cells, hx, Int.zero_add]); (repeat (refine And.intro (by (omega)) ?_)); refine h' _ ?_; clear h' K') | (refine aops_nil (hK _ ?_); clear hK K gs; try simp only [aThen, aBlock]) | (refine AWp.sreg  dd101 rfl (fun gs K hgs hK => ?_); clear hgs) | refine AWp.seq ?_ | refine AWp.block ?_))
  refine AWp.loopR 2 ?_
  repeat (any_goals (first | (refine aops_cons (fun K' h' => ?_); simp only [go_sem, Nat.reduceLT, Nat.reduceLeDiff, Nat.reduceEqDiff, reduceIte, Nat.reduceAdd, Nat.reduceMul, Nat.reduceSub, Int.reduceLT, Int.reduceLE, Int.reduceToNat, Int.reduceNeg, reduceCtorEq, Node.cells, hx, Int.zero_add]; (try simp (disch := omega) only [wrap_id, getD_map_in, Int.toNat_natCast, Node.cells, hx, Int.zero_add]); (repeat (refine And.intro (by (omega)) ?_)); refine h' _ ?_; clear h' K') | (refine aops_nil (hK _ ?_); clear hK K gs; try simp only [aThen, aBlock]) | (refine AWp.sreg  dd101 rfl (fun gs K hgs hK => ?_); clear hgs) | refine AWp.seq ?_ | refine AWp.block ?_ | (refine AWp.ret ?_; try simp only [aThen, aBlock]) | (refine AWp.skip ?_; try simp only [aThen, aBlock]) | (refine AWp.exit ?_; try simp only [aThen, aBlock, Nat.reduceEqDiff, reduceIte]) | (refine AWp.reg  dd101 rfl (fun gs K hgs hK => ?_); clear hgs) | (refine AWp.cond rfl (fun h => ?_) (fun h => ?_) <;> (try simp only [decide_eq_true_eq, decide_eq_false_iff_not, beq_iff_eq, bne_iff_ne, ne_eq, Bool.not_eq_true', Bool.not_eq_false', beq_eq_false_iff_ne, Bool.true_eq_false, Bool.false_eq_true, Int.not_le, Int.not_lt, Bool.and_eq_true, Bool.and_eq_false_iff, Bool.or_eq_true, Bool.or_eq_false_iff, bne_eq_false_iff_eq, reduceCtorEq] at h) <;> (try first | contradiction))))
  all_goals simp only [Out, outA, outL, resA, go_sem, Nat.reduceLT, Nat.reduceLeDiff, Nat.reduceEqDiff, reduceIte, Nat.reduceAdd, Nat.reduceMul, Nat.reduceSub, Int.reduceLT, Int.reduceLE, Int.reduceToNat, Int.reduceNeg, reduceCtorEq]
  all_goals refine AVle.of_eq (congrArg (fun b => AV.lit (.bool b)) ?_)
  all_goals (cases x <;> cases t <;> first | rfl | contradiction | exact absurd rfl (by assumption))
theorem takes_2 (l : List Bool) (t : Bool) (a b : Int) (x y : Bool) (h1 : 0 ≤ a) (h2 : a < l.length) (h3 : 0 ≤ b) (h4 : b < l.length) (hl : l.length ≤ 1000) (hx : l.getD a.toNat default = x) (hy : l.getD b.toNat default = y) :
    ACall Tryz.prog 101 [.lit (.bool t), .ro 1 [[.lit (.int .i64 a)], [.lit (.int .i64 b)]], .rop [boolsV l]] (.lit (.bool (x == t && y == t))) := by
  unfold boolsV
  refine acall_of (n := 21) (rs := [.tmp 5]) Tryz.func101 rfl (by kernel_rfl) rfl rfl rfl ?_; simp only [argsE, Nat.reduceAdd]
  repeat (any_goals (first | (refine aops_cons (fun K' h' => ?_); simp only [go_sem, Nat.reduceLT, Nat.reduceLeDiff, Nat.reduceEqDiff, reduceIte, Nat.reduceAdd, Nat.reduceMul, Nat.reduceSub, Int.reduceLT, Int.reduceLE, Int.reduceToNat, Int.reduceNeg, reduceCtorEq, Node.cells, hx, hy, Int.zero_add, Int.reduceAdd]; (try simp (disch := omega) only [wrap_id, getD_map_in, Int.toNat_natCast, Node.cells, hx, hy, Int.zero_add, Int.reduceAdd]); (repeat (refine And.intro (by (omega)) ?_)); refine h' _ ?_; clear h' K') | (refine aops_nil (hK _ ?_); clear hK K gs; try simp only [aThen, aBlock]) | (refine AWp.sreg  dd101 rfl (fun gs K hgs hK => ?_); clear hgs) | refine AWp.seq ?_ | refine AWp.block ?_))
  refine AWp.loopR 3 ?_
  repeat (any_goals (first | (refine aops_cons (fun K' h' => ?_); simp only [go_sem, Nat.reduceLT, Nat.reduceLeDiff, Nat.reduceEqDiff, reduceIte, Nat.reduceAdd, Nat.reduceMul, Nat.reduceSub, Int.reduceLT, Int.reduceLE, Int.reduceToNat, Int.reduceNeg, reduceCtorEq, Node.cells, hx, hy, Int.zero_add, Int.reduceAdd]; (try simp (disch := omega) only [wrap_id, getD_map_in, Int.toNat_natCast, Node.cells, hx, hy, Int.zero_add, Int.reduceAdd]); (repeat (refine And.intro (by (omega)) ?_)); refine h' _ ?_; clear h' K') | (refine aops_nil (hK _ ?_); clear hK K gs; try simp only [aThen, aBlock]) | (refine AWp.sreg  dd101 rfl (fun gs K hgs hK => ?_); clear hgs) | refine AWp.seq ?_ | refine AWp.block ?_ | (refine AWp.ret ?_; try simp only [aThen, aBlock]) | (refine AWp.skip ?_; try simp only [aThen, aBlock]) | (refine AWp.exit ?_; try simp only [aThen, aBlock, Nat.reduceEqDiff, reduceIte]) | (refine AWp.reg  dd101 rfl (fun gs K hgs hK => ?_); clear hgs) | (refine AWp.cond rfl (fun h => ?_) (fun h => ?_) <;> (try simp only [decide_eq_true_eq, decide_eq_false_iff_not, beq_iff_eq, bne_iff_ne, ne_eq, Bool.not_eq_true', Bool.not_eq_false', beq_eq_false_iff_ne, Bool.true_eq_false, Bool.false_eq_true, Int.not_le, Int.not_lt, Bool.and_eq_true, Bool.and_eq_false_iff, Bool.or_eq_true, Bool.or_eq_false_iff, bne_eq_false_iff_eq, reduceCtorEq] at h) <;> (try first | contradiction))))
  all_goals simp only [Out, outA, outL, resA, go_sem, Nat.reduceLT, Nat.reduceLeDiff, Nat.reduceEqDiff, reduceIte, Nat.reduceAdd, Nat.reduceMul, Nat.reduceSub, Int.reduceLT, Int.reduceLE, Int.reduceToNat, Int.reduceNeg, reduceCtorEq]
  all_goals refine AVle.of_eq (congrArg (fun b => AV.lit (.bool b)) ?_)
  all_goals (cases x <;> cases y <;> cases t <;> first | rfl | contradiction | exact absurd rfl (by assumption))
theorem fitsK_7 {k : Int} {a b : Bool} (h1 : 6 < k) (h2 : k ≤ 15) : fitsK k a b = (!a && !b) := by
  unfold fitsK; rw [if_neg (by omega), if_neg (by omega), if_neg (by omega), if_neg (by omega), if_neg (by omega)]
theorem fitsK_16 {k : Int} {a b : Bool} (h1 : 16 ≤ k) (h2 : k ≤ 17) : fitsK k a b = (a == b) := by
  unfold fitsK; rw [if_neg (by omega), if_neg (by omega), if_neg (by omega), if_pos (by omega)]
theorem fitsK_18 {k : Int} {a b : Bool} (h1 : 18 ≤ k) : fitsK k a b = (a && b) := by
  unfold fitsK; rw [if_neg (by omega), if_neg (by omega), if_neg (by omega), if_neg (by omega), if_pos (by omega)]
theorem givesB_lo {k : Int} (h : k ≤ 11) (h6 : k ≠ 6) : givesB k = false := by
  unfold givesB; rw [decide_eq_false h6, decide_eq_false (by omega)]; rfl
theorem givesB_hi {k : Int} (h : 12 ≤ k) : givesB k = true := by
  unfold givesB; rw [decide_eq_true h]; simp
theorem gives_at {l : List Node} {k : Nat} {a : Int} (h1 : 0 ≤ a) (h2 : a < k) (hk : k ≤ l.length) : ((l.take k).map fun x => givesB x.kind).getD a.toNat default = givesB (kindAt l a) := by
  unfold kindAt
  simp only [List.getD_eq_getElem?_getD, List.getElem?_map]
  rw [List.getElem?_take_of_lt (by omega), List.getElem?_eq_getElem (by omega)]
  rfl
theorem gives_snoc {l : List Node} {k : Nat} {y : Node} (hk : k < l.length) (hy : l.getD k default = y) : (l.take (k + 1)).map (fun x => givesB x.kind) = (l.take k).map (fun x => givesB x.kind) ++ [givesB y.kind] := by
  rw [List.take_add_one, List.getElem?_eq_getElem hk]
  rw [List.getD_eq_getElem?_getD, List.getElem?_eq_getElem hk] at hy
  rw [show l[k] = y from hy]; simp
def dd98 : Nat → List (List Nat)
  | 0 => [[], [2], [3]]
  | 1 => [[], []]
  | 2 => [[], [], [11]]
  | 3 => [[], [], [], []]
  | 4 => [[], []]
  | 5 => [[15], [], [], [17], [], [16], [18]]
  | 6 => [[], []]
  | 7 => [[], []]
  | 8 => [[], [], [19], [], [21], [20, 22], [23]]
  | 9 => [[56], [], [24]]
  | 10 => [[], [], [26], [27], [28]]
  | 11 => [[6, 7, 8, 9, 10, 25], [], [], [29, 30], [31]]
  | 12 => [[25], [], [33], [34], [35]]
  | 14 => [[32], [], [40], [41], [42]]
  | 16 => [[39], [], [47], [48], [49]]
  | 17 => [[7, 9, 46], [], [50], []]
  | 18 => [[46], [], [52], [53], [54]]
  | 19 => [[7, 51], [], [55]]
  | 20 => [[51], [7], [57], [58], [59]]
  | 21 => [[56], [], [60]]
  | 22 => [[], [], [61], [62], [], [], [64, 65], [63, 66], [67], [68], [8], [70], [71], [], [10], [73, 74], [72, 75], [76], [69, 77]]
  | 23 => [[0, 4, 5, 9, 12, 13, 14, 78], [6], [], [79]]
  | 24 => [[6, 78], [], [9], [81], [80, 82], [83]]
  | 25 => [[], [14], [84]]
  | 26 => [[5, 12, 13, 14, 15], [4], [0], [86], [85], [87]]
  | _ => []
def fo98 : Nat → List Nat
  | 13 => [0, 4, 5, 6, 8, 9, 10, 12, 13, 14]
  | 15 => [0, 4, 5, 6, 8, 9, 10, 12, 13, 14]
  | _ => []
theorem told_c {l : List Node} {e : Ex} (hl : l.length ≤ 1000) (hx : IsEx l e) : ACall Tryz.prog 98 [nodesV l] (.tup [boolsV (if wrongL l = l.length then l.map fun x => givesB x.kind else []), .lit (.int .i64 (wrongL l : Int))]) := by
  unfold nodesV boolsV
  refine acall_of (n := 88) (rs := [.tmp 2, .tmp 3]) Tryz.func98 rfl (by kernel_rfl) rfl rfl rfl ?_; simp only [argsE, Nat.reduceAdd]
  repeat (any_goals (first | ((refine aops_cons (fun K' h' => ?_)); simp only [go_sem, Nat.reduceLT, Nat.reduceLeDiff, Nat.reduceEqDiff, reduceIte, Nat.reduceAdd, Nat.reduceMul, Nat.reduceSub, Int.reduceLT, Int.reduceLE, Int.reduceToNat, Int.reduceNeg, reduceCtorEq, hgs, Node.cells]; (try simp (disch := omega) only [wrap_id, getD_map_in, Int.toNat_natCast, Node.cells]); (repeat (refine And.intro (by (omega)) ?_)); refine h' _ ?_; clear h' K') | (refine aops_nil (hK _ ?_); clear hK K hgs gs; try simp only [aThen, aBlock, aNoGoto]) | (refine AWp.sreg  dd98 rfl (fun gs K hgs hK => ?_); replace hgs : Nat.succ 0 = 1 := rfl) | refine AWp.seq ?_ | refine AWp.block ?_ | refine AWp.label ?_ | (refine AWp.scope ?_)))
  refine AWp.loop (I := fun k : Nat => k ≤ wrongL l) (fun k => ⟨[(0, .ro 5 (l.map Node.cells)), (4, .bp 0 0), (5, .fn 101 [.bp 0 0]), (12, .ro 5 (l.map Node.cells)), (13, .lit (.int .i64 (l.length : Int))), (14, .lit (.int .i64 (k : Int)))], [[.own 0 1 0 k]], [some ⟨4, 1, ((l.take k).map fun x => givesB x.kind).map fun b => [.lit (.bool b)]⟩]⟩) (fun k => l.length - k) 0 ?_ ?_ ?_
  · exact Nat.zero_le _
  · refine (Wk.nilBox 0 0 4 1 rfl rfl (by simp)).trans (Wk.of rfl rfl ?_)
    simp [subE, eget, ASt.drop, dropE, keepR, lowE, AV.lowB, lowL, Nat.blt, Nat.ble]
  · rintro k hk
    have hwl := wrongL_le l
    repeat ((first | ((refine aops_cons (fun K' h' => ?_)); simp only [go_sem, Nat.reduceLT, Nat.reduceLeDiff, Nat.reduceEqDiff, reduceIte, Nat.reduceAdd, Nat.reduceMul, Nat.reduceSub, Int.reduceLT, Int.reduceLE, Int.reduceToNat, Int.reduceNeg, reduceCtorEq, hgs, Node.cells]; (try simp (disch := omega) only [wrap_id, getD_map_in, Int.toNat_natCast, Node.cells]); (repeat (refine And.intro (by (omega)) ?_)); refine h' _ ?_; clear h' K') | (refine aops_nil (hK _ ?_); clear hK K hgs gs; try simp only [aThen, aBlock, aNoGoto]) | (refine AWp.sreg  dd98 rfl (fun gs K hgs hK => ?_); replace hgs : Nat.succ 0 = 1 := rfl) | refine AWp.seq ?_))
    (refine AWp.cond rfl (fun h => ?_) (fun h => ?_) <;> (try simp only [decide_eq_true_eq, decide_eq_false_iff_not, beq_iff_eq, bne_iff_ne, ne_eq, Bool.not_eq_true', Bool.not_eq_false', beq_eq_false_iff_ne, Bool.true_eq_false, Bool.false_eq_true, Int.not_le, Int.not_lt, Bool.and_eq_true, Bool.and_eq_false_iff, Bool.or_eq_true, Bool.or_eq_false_iff, bne_eq_false_iff_eq, reduceCtorEq] at h))
    · obtain ⟨y, hy⟩ : ∃ y, l.getD k default = y := ⟨_, rfl⟩
      have hat := hx.at (i := k) (by omega)
      have hfk : fitsAt l k = true → k + 1 ≤ wrongL l := fun h => by
        rcases Nat.lt_or_ge k (wrongL l) with h1 | h1
        · exact h1
        · have := wrongL_not (l := l) (by omega)
          rw [show wrongL l = k by omega, h] at this; cases this
      have hnk : fitsAt l k = false → wrongL l = k := fun h => by
        rcases Nat.lt_or_ge k (wrongL l) with h1 | h1
        · have := wrongL_fits h1; rw [h] at this; cases this
        · omega
      have hsn := gives_snoc (l := l) (k := k) (by omega) hy
      have hln : ((l.take k).map fun x => givesB x.kind).length = k := by simp; omega
      obtain ⟨hk1, hk2, ha, hb, -, -⟩ := hat
      rw [hy] at hk1 hk2 ha hb
      have hfd : fitsAt l k = fitsK y.kind (givesB (kindAt l y.a)) (givesB (kindAt l y.b)) := by unfold fitsAt; rw [hy]
      have hga : 4 < y.kind → ((l.take k).map fun x => givesB x.kind).getD y.a.toNat default = givesB (kindAt l y.a) := fun h => gives_at (by have := (ha h).1; omega) (ha h).2 (by omega)
      have hgb : 6 < y.kind → ((l.take k).map fun x => givesB x.kind).getD y.b.toNat default = givesB (kindAt l y.b) := fun h => gives_at (by have := (hb h).1; omega) (hb h).2 (by omega)
      generalize givesB (kindAt l y.a) = ga at *
      generalize givesB (kindAt l y.b) = gb at *
      obtain ⟨bs, hbs⟩ : ∃ bs, ((l.take k).map fun x => givesB x.kind) = bs := ⟨_, rfl⟩
      rw [hbs] at hsn hln hga hgb
      rw [hbs]
      obtain ⟨kd, nn, xa, xb, xp⟩ := y
      simp only at hk1 hk2 ha hb hfd hga hgb hsn
      have htk : (bs.map fun b => [AV.lit (.bool b)]).take k = bs.map fun b => [AV.lit (.bool b)] := List.take_of_length_le (by simp; omega)
      have hgt : 4 < kd → ∀ t : Bool, kd ≤ 6 → ACall Tryz.prog 101 [.lit (.bool t), .ro 1 [[.lit (.int .i64 xa)]], .rop [.ro 1 (bs.map fun b => [.lit (.bool b)])]] (.lit (.bool (ga == t))) := fun h t _ =>
        takes_1 bs t xa ga (by have := (ha h).1; omega) (by rw [hln]; exact (ha h).2) (by omega) (hga h)
      have hgt2 : 6 < kd → ∀ t : Bool, ACall Tryz.prog 101 [.lit (.bool t), .ro 1 [[.lit (.int .i64 xa)], [.lit (.int .i64 xb)]], .rop [.ro 1 (bs.map fun b => [.lit (.bool b)])]] (.lit (.bool (ga == t && gb == t))) := fun h t =>
        takes_2 bs t xa xb ga gb (by have := (ha (by omega)).1; omega) (by rw [hln]; exact (ha (by omega)).2) (by have := (hb h).1; omega) (by rw [hln]; exact (hb h).2) (by omega) (hga (by omega)) (hgb h)
      by_cases h4 : kd ≤ 4
      · have hfit : fitsK kd ga gb = true := by exact fitsK_leaf h4 _ _
        have hgv : givesB kd = false := givesB_lo (by omega) (by omega)
        clear hgt hgt2 hga hgb ha hb
        repeat (any_goals (first | ((refine aops_cons (fun K' h' => ?_)); simp only [go_sem, Nat.reduceLT, Nat.reduceLeDiff, Nat.reduceEqDiff, reduceIte, Nat.reduceAdd, Nat.reduceMul, Nat.reduceSub, Int.reduceLT, Int.reduceLE, Int.reduceToNat, Int.reduceNeg, reduceCtorEq, hgs, Node.cells, hy, htk]; (try simp (disch := omega) only [wrap_id, getD_map_in, Int.toNat_natCast, Node.cells, hy, htk]); (repeat (refine And.intro (by (omega)) ?_)); refine h' _ ?_; clear h' K') | (refine aops_nil (hK _ ?_); clear hK K hgs gs; try simp only [aThen, aBlock, aNoGoto]) | (refine AWp.sreg  dd98 rfl (fun gs K hgs hK => ?_); replace hgs : Nat.succ 0 = 1 := rfl) | refine AWp.seq ?_ | refine AWp.block ?_ | (refine AWp.skip ?_; try simp only [aThen, aBlock, aNoGoto]) | (refine AWp.exit ?_; try simp only [aThen, aBlock, aNoGoto, Nat.reduceEqDiff, reduceIte]) | (refine AWp.reg  dd98 rfl (fun gs K hgs hK => ?_); replace hgs : Nat.succ 0 = 1 := rfl) | (refine AWp.cond rfl (fun h => ?_) (fun h => ?_) <;> (try simp only [decide_eq_true_eq, decide_eq_false_iff_not, beq_iff_eq, bne_iff_ne, ne_eq, Bool.not_eq_true', Bool.not_eq_false', beq_eq_false_iff_ne, Bool.true_eq_false, Bool.false_eq_true, Int.not_le, Int.not_lt, Bool.and_eq_true, Bool.and_eq_false_iff, Bool.or_eq_true, Bool.or_eq_false_iff, bne_eq_false_iff_eq, reduceCtorEq] at h) <;> (try first | (exfalso; omega)))))
        all_goals first
          | (simp only [Out, outA, outL, resA, go_sem, Nat.reduceLT, Nat.reduceLeDiff, Nat.reduceEqDiff, reduceIte, Nat.reduceAdd, Nat.reduceMul, Nat.reduceSub, Int.reduceLT, Int.reduceLE, Int.reduceToNat, Int.reduceNeg, reduceCtorEq]
             have hf : fitsAt l k = false := by rw [hfd, hfit]; revert h; cases ga <;> cases gb <;> simp
             rw [hnk hf, if_neg (by omega)]
             exact AVle.tup ⟨AVle.nil 1, AVle.refl _, trivial⟩)
          | (refine ⟨k + 1, hfk (by rw [hfd, hfit]), Wk.ofCut 1 1 rfl ?_ ?_, by omega⟩
             · rw [hsn, hgv]; simp [ASt.drop]
             · first
               | (simp [subE, eget, ASt.drop, dropE, keepR, lowE, AV.lowB, lowL, Nat.blt, Nat.ble]; done)
               | (simp [subE, eget, ASt.drop, dropE, keepR, lowE, AV.lowB, lowL, Nat.blt, Nat.ble]; omega))
      by_cases h5 : kd = 5
      · subst h5
        have hT1 := hgt (by omega) false (by omega)
        have hT2 := hgt (by omega) true (by omega)
        have hfit : fitsK 5 ga gb = !ga := by rfl
        have hgv : givesB 5 = false := by rfl
        clear hgt hgt2 hga hgb ha hb
        repeat (any_goals (first | ((first | refine aops_cons (fun K' h' => ?_) | refine aopsM_cons (fun K' h' => ?_)); simp only [go_sem, Nat.reduceLT, Nat.reduceLeDiff, Nat.reduceEqDiff, reduceIte, Nat.reduceAdd, Nat.reduceMul, Nat.reduceSub, Int.reduceLT, Int.reduceLE, Int.reduceToNat, Int.reduceNeg, reduceCtorEq, hgs, Node.cells, hy, htk]; (try ((first | refine ⟨_, hT1, ?_⟩ | refine ⟨_, fun _ => hT2, ?_⟩); (try simp only [go_sem, Nat.reduceLT, Nat.reduceLeDiff, Nat.reduceEqDiff, reduceIte, Nat.reduceAdd, Nat.reduceMul, Nat.reduceSub, Int.reduceLT, Int.reduceLE, Int.reduceToNat, Int.reduceNeg, reduceCtorEq, hgs, Node.cells, hy, htk]))); (try simp (disch := omega) only [wrap_id, getD_map_in, Int.toNat_natCast, Node.cells, hy, htk]); (repeat (refine And.intro (by (first | omega | (simp; done))) ?_)); refine h' _ ?_; clear h' K') | (refine aops_nil (hK _ ?_); clear hK K hgs gs; try simp only [aThen, aBlock, aNoGoto]) | ((refine AWp.sreg (id := 22) dd98 rfl (fun gs K hgs hK => ?_)); replace hgs : gs 2 = some 63 ∧ gs 8 = some 69 ∧ gs 11 = some 72 := ⟨hgs 2, hgs 8, hgs 11⟩) | (refine AWp.sreg  dd98 rfl (fun gs K hgs hK => ?_); replace hgs : Nat.succ 0 = 1 := rfl) | refine AWp.seq ?_ | refine AWp.block ?_ | (refine AWp.ret ?_; try simp only [aThen, aBlock, aNoGoto]) | (refine AWp.skip ?_; try simp only [aThen, aBlock, aNoGoto]) | (refine AWp.reg  dd98 rfl (fun gs K hgs hK => ?_); replace hgs : Nat.succ 0 = 1 := rfl) | ((refine AWp.regM (id := 13) fo98 (false, false) mo_fact (by kernel_rfl) (by kernel_rfl) (fun gs K hgs hK => ?_)); replace hgs : Nat.succ 0 = 1 := rfl) | (refine aopsM_nil (hK _ ?_); clear hK K hgs gs; simp only [fo98]; simp only [ASt.prune, pruneE, keepB, keepR, Bool.or_false, Bool.or_true, Bool.true_or, Bool.false_or, reduceIte, Bool.or_self, Bool.false_eq_true, aThen, aBlock, Nat.reduceEqDiff]) | (refine AWp.cond rfl (fun h => ?_) (fun h => ?_) <;> (try simp only [decide_eq_true_eq, decide_eq_false_iff_not, beq_iff_eq, bne_iff_ne, ne_eq, Bool.not_eq_true', Bool.not_eq_false', beq_eq_false_iff_ne, Bool.true_eq_false, Bool.false_eq_true, Int.not_le, Int.not_lt, Bool.and_eq_true, Bool.and_eq_false_iff, Bool.or_eq_true, Bool.or_eq_false_iff, bne_eq_false_iff_eq, reduceCtorEq] at h) <;> (try first | contradiction))))
        all_goals first
          | (simp only [Out, outA, outL, resA, go_sem, Nat.reduceLT, Nat.reduceLeDiff, Nat.reduceEqDiff, reduceIte, Nat.reduceAdd, Nat.reduceMul, Nat.reduceSub, Int.reduceLT, Int.reduceLE, Int.reduceToNat, Int.reduceNeg, reduceCtorEq]
             have hf : fitsAt l k = false := by rw [hfd, hfit]; revert h; cases ga <;> cases gb <;> simp
             rw [hnk hf, if_neg (by omega)]
             exact AVle.tup ⟨AVle.nil 1, AVle.refl _, trivial⟩)
          | (refine ⟨k + 1, hfk (by rw [hfd, hfit]; revert h; cases ga <;> cases gb <;> simp), Wk.ofCut 1 1 rfl ?_ ?_, by omega⟩
             · rw [hsn, hgv]; simp [ASt.drop]
             · first
               | (simp [subE, eget, ASt.drop, dropE, keepR, lowE, AV.lowB, lowL, Nat.blt, Nat.ble]; done)
               | (simp [subE, eget, ASt.drop, dropE, keepR, lowE, AV.lowB, lowL, Nat.blt, Nat.ble]; omega))
      by_cases h6 : kd = 6
      · subst h6
        have hT1 := hgt (by omega) false (by omega)
        have hT2 := hgt (by omega) true (by omega)
        have hfit : fitsK 6 ga gb = ga := by rfl
        have hgv : givesB 6 = true := by rfl
        clear hgt hgt2 hga hgb ha hb
        repeat (any_goals (first | ((first | refine aops_cons (fun K' h' => ?_) | refine aopsM_cons (fun K' h' => ?_)); simp only [go_sem, Nat.reduceLT, Nat.reduceLeDiff, Nat.reduceEqDiff, reduceIte, Nat.reduceAdd, Nat.reduceMul, Nat.reduceSub, Int.reduceLT, Int.reduceLE, Int.reduceToNat, Int.reduceNeg, reduceCtorEq, hgs, Node.cells, hy, htk]; (try ((first | refine ⟨_, fun _ => hT1, ?_⟩ | refine ⟨_, hT2, ?_⟩); (try simp only [go_sem, Nat.reduceLT, Nat.reduceLeDiff, Nat.reduceEqDiff, reduceIte, Nat.reduceAdd, Nat.reduceMul, Nat.reduceSub, Int.reduceLT, Int.reduceLE, Int.reduceToNat, Int.reduceNeg, reduceCtorEq, hgs, Node.cells, hy, htk]))); (try simp (disch := omega) only [wrap_id, getD_map_in, Int.toNat_natCast, Node.cells, hy, htk]); (repeat (refine And.intro (by (first | omega | (simp; done))) ?_)); refine h' _ ?_; clear h' K') | (refine aops_nil (hK _ ?_); clear hK K hgs gs; try simp only [aThen, aBlock, aNoGoto]) | ((refine AWp.sreg (id := 22) dd98 rfl (fun gs K hgs hK => ?_)); replace hgs : gs 2 = some 63 ∧ gs 8 = some 69 ∧ gs 11 = some 72 := ⟨hgs 2, hgs 8, hgs 11⟩) | (refine AWp.sreg  dd98 rfl (fun gs K hgs hK => ?_); replace hgs : Nat.succ 0 = 1 := rfl) | refine AWp.seq ?_ | refine AWp.block ?_ | (refine AWp.ret ?_; try simp only [aThen, aBlock, aNoGoto]) | (refine AWp.skip ?_; try simp only [aThen, aBlock, aNoGoto]) | (refine AWp.reg  dd98 rfl (fun gs K hgs hK => ?_); replace hgs : Nat.succ 0 = 1 := rfl) | ((refine AWp.regM (id := 15) fo98 (false, false) mo_fact (by kernel_rfl) (by kernel_rfl) (fun gs K hgs hK => ?_)); replace hgs : Nat.succ 0 = 1 := rfl) | (refine aopsM_nil (hK _ ?_); clear hK K hgs gs; simp only [fo98]; simp only [ASt.prune, pruneE, keepB, keepR, Bool.or_false, Bool.or_true, Bool.true_or, Bool.false_or, reduceIte, Bool.or_self, Bool.false_eq_true, aThen, aBlock, Nat.reduceEqDiff]) | (refine AWp.cond rfl (fun h => ?_) (fun h => ?_) <;> (try simp only [decide_eq_true_eq, decide_eq_false_iff_not, beq_iff_eq, bne_iff_ne, ne_eq, Bool.not_eq_true', Bool.not_eq_false', beq_eq_false_iff_ne, Bool.true_eq_false, Bool.false_eq_true, Int.not_le, Int.not_lt, Bool.and_eq_true, Bool.and_eq_false_iff, Bool.or_eq_true, Bool.or_eq_false_iff, bne_eq_false_iff_eq, reduceCtorEq] at h) <;> (try first | contradiction))))
        all_goals first
          | (simp only [Out, outA, outL, resA, go_sem, Nat.reduceLT, Nat.reduceLeDiff, Nat.reduceEqDiff, reduceIte, Nat.reduceAdd, Nat.reduceMul, Nat.reduceSub, Int.reduceLT, Int.reduceLE, Int.reduceToNat, Int.reduceNeg, reduceCtorEq]
             have hf : fitsAt l k = false := by rw [hfd, hfit]; revert h; cases ga <;> cases gb <;> simp
             rw [hnk hf, if_neg (by omega)]
             exact AVle.tup ⟨AVle.nil 1, AVle.refl _, trivial⟩)
          | (refine ⟨k + 1, hfk (by rw [hfd, hfit]; revert h; cases ga <;> cases gb <;> simp), Wk.ofCut 1 1 rfl ?_ ?_, by omega⟩
             · rw [hsn, hgv]; simp [ASt.drop]
             · first
               | (simp [subE, eget, ASt.drop, dropE, keepR, lowE, AV.lowB, lowL, Nat.blt, Nat.ble]; done)
               | (simp [subE, eget, ASt.drop, dropE, keepR, lowE, AV.lowB, lowL, Nat.blt, Nat.ble]; omega))
      by_cases h11 : kd ≤ 11
      · have hT1 := hgt2 (by omega) false
        have hT2 := hgt2 (by omega) true
        have hfit : fitsK kd ga gb = (!ga && !gb) := by exact fitsK_7 (by omega) (by omega)
        have hgv : givesB kd = false := givesB_lo (by omega) (by omega)
        clear hgt hgt2 hga hgb ha hb
        repeat (any_goals (first | ((refine aops_cons (fun K' h' => ?_)); simp only [go_sem, Nat.reduceLT, Nat.reduceLeDiff, Nat.reduceEqDiff, reduceIte, Nat.reduceAdd, Nat.reduceMul, Nat.reduceSub, Int.reduceLT, Int.reduceLE, Int.reduceToNat, Int.reduceNeg, reduceCtorEq, hgs, Node.cells, hy, htk]; (try ((first | refine ⟨_, hT1, ?_⟩ | refine ⟨_, fun _ => hT2, ?_⟩); (try simp only [go_sem, Nat.reduceLT, Nat.reduceLeDiff, Nat.reduceEqDiff, reduceIte, Nat.reduceAdd, Nat.reduceMul, Nat.reduceSub, Int.reduceLT, Int.reduceLE, Int.reduceToNat, Int.reduceNeg, reduceCtorEq, hgs, Node.cells, hy, htk]))); (try simp (disch := omega) only [wrap_id, getD_map_in, Int.toNat_natCast, Node.cells, hy, htk]); (repeat (refine And.intro (by (omega)) ?_)); refine h' _ ?_; clear h' K') | (refine aops_nil (hK _ ?_); clear hK K hgs gs; try simp only [aThen, aBlock, aNoGoto]) | ((refine AWp.sreg (id := 22) dd98 rfl (fun gs K hgs hK => ?_)); replace hgs : gs 2 = some 63 ∧ gs 8 = some 69 ∧ gs 11 = some 72 := ⟨hgs 2, hgs 8, hgs 11⟩) | (refine AWp.sreg  dd98 rfl (fun gs K hgs hK => ?_); replace hgs : Nat.succ 0 = 1 := rfl) | refine AWp.seq ?_ | refine AWp.block ?_ | (refine AWp.ret ?_; try simp only [aThen, aBlock, aNoGoto]) | (refine AWp.skip ?_; try simp only [aThen, aBlock, aNoGoto]) | (refine AWp.reg  dd98 rfl (fun gs K hgs hK => ?_); replace hgs : Nat.succ 0 = 1 := rfl) | (refine AWp.cond rfl (fun h => ?_) (fun h => ?_) <;> (try simp only [decide_eq_true_eq, decide_eq_false_iff_not, beq_iff_eq, bne_iff_ne, ne_eq, Bool.not_eq_true', Bool.not_eq_false', beq_eq_false_iff_ne, Bool.true_eq_false, Bool.false_eq_true, Int.not_le, Int.not_lt, Bool.and_eq_true, Bool.and_eq_false_iff, Bool.or_eq_true, Bool.or_eq_false_iff, bne_eq_false_iff_eq, reduceCtorEq] at h) <;> (try first | contradiction | (exfalso; omega)))))
        all_goals first
          | (simp only [Out, outA, outL, resA, go_sem, Nat.reduceLT, Nat.reduceLeDiff, Nat.reduceEqDiff, reduceIte, Nat.reduceAdd, Nat.reduceMul, Nat.reduceSub, Int.reduceLT, Int.reduceLE, Int.reduceToNat, Int.reduceNeg, reduceCtorEq]
             have hf : fitsAt l k = false := by rw [hfd, hfit]; revert h; cases ga <;> cases gb <;> simp
             rw [hnk hf, if_neg (by omega)]
             exact AVle.tup ⟨AVle.nil 1, AVle.refl _, trivial⟩)
          | (refine ⟨k + 1, hfk (by rw [hfd, hfit]; revert h; cases ga <;> cases gb <;> simp), Wk.ofCut 1 1 rfl ?_ ?_, by omega⟩
             · rw [hsn, hgv]; simp [ASt.drop]
             · first
               | (simp [subE, eget, ASt.drop, dropE, keepR, lowE, AV.lowB, lowL, Nat.blt, Nat.ble]; done)
               | (simp [subE, eget, ASt.drop, dropE, keepR, lowE, AV.lowB, lowL, Nat.blt, Nat.ble]; omega))
      by_cases h15 : kd ≤ 15
      · have hT1 := hgt2 (by omega) false
        have hT2 := hgt2 (by omega) true
        have hfit : fitsK kd ga gb = (!ga && !gb) := by exact fitsK_7 (by omega) (by omega)
        have hgv : givesB kd = true := givesB_hi (by omega)
        clear hgt hgt2 hga hgb ha hb
        repeat (any_goals (first | ((refine aops_cons (fun K' h' => ?_)); simp only [go_sem, Nat.reduceLT, Nat.reduceLeDiff, Nat.reduceEqDiff, reduceIte, Nat.reduceAdd, Nat.reduceMul, Nat.reduceSub, Int.reduceLT, Int.reduceLE, Int.reduceToNat, Int.reduceNeg, reduceCtorEq, hgs, Node.cells, hy, htk]; (try ((first | refine ⟨_, hT1, ?_⟩ | refine ⟨_, fun _ => hT2, ?_⟩); (try simp only [go_sem, Nat.reduceLT, Nat.reduceLeDiff, Nat.reduceEqDiff, reduceIte, Nat.reduceAdd, Nat.reduceMul, Nat.reduceSub, Int.reduceLT, Int.reduceLE, Int.reduceToNat, Int.reduceNeg, reduceCtorEq, hgs, Node.cells, hy, htk]))); (try simp (disch := omega) only [wrap_id, getD_map_in, Int.toNat_natCast, Node.cells, hy, htk]); (repeat (refine And.intro (by (omega)) ?_)); refine h' _ ?_; clear h' K') | (refine aops_nil (hK _ ?_); clear hK K hgs gs; try simp only [aThen, aBlock, aNoGoto]) | ((refine AWp.sreg (id := 22) dd98 rfl (fun gs K hgs hK => ?_)); replace hgs : gs 2 = some 63 ∧ gs 8 = some 69 ∧ gs 11 = some 72 := ⟨hgs 2, hgs 8, hgs 11⟩) | (refine AWp.sreg  dd98 rfl (fun gs K hgs hK => ?_); replace hgs : Nat.succ 0 = 1 := rfl) | refine AWp.seq ?_ | refine AWp.block ?_ | (refine AWp.ret ?_; try simp only [aThen, aBlock, aNoGoto]) | (refine AWp.skip ?_; try simp only [aThen, aBlock, aNoGoto]) | (refine AWp.reg  dd98 rfl (fun gs K hgs hK => ?_); replace hgs : Nat.succ 0 = 1 := rfl) | (refine AWp.cond rfl (fun h => ?_) (fun h => ?_) <;> (try simp only [decide_eq_true_eq, decide_eq_false_iff_not, beq_iff_eq, bne_iff_ne, ne_eq, Bool.not_eq_true', Bool.not_eq_false', beq_eq_false_iff_ne, Bool.true_eq_false, Bool.false_eq_true, Int.not_le, Int.not_lt, Bool.and_eq_true, Bool.and_eq_false_iff, Bool.or_eq_true, Bool.or_eq_false_iff, bne_eq_false_iff_eq, reduceCtorEq] at h) <;> (try first | contradiction | (exfalso; omega)))))
        all_goals first
          | (simp only [Out, outA, outL, resA, go_sem, Nat.reduceLT, Nat.reduceLeDiff, Nat.reduceEqDiff, reduceIte, Nat.reduceAdd, Nat.reduceMul, Nat.reduceSub, Int.reduceLT, Int.reduceLE, Int.reduceToNat, Int.reduceNeg, reduceCtorEq]
             have hf : fitsAt l k = false := by rw [hfd, hfit]; revert h; cases ga <;> cases gb <;> simp
             rw [hnk hf, if_neg (by omega)]
             exact AVle.tup ⟨AVle.nil 1, AVle.refl _, trivial⟩)
          | (refine ⟨k + 1, hfk (by rw [hfd, hfit]; revert h; cases ga <;> cases gb <;> simp), Wk.ofCut 1 1 rfl ?_ ?_, by omega⟩
             · rw [hsn, hgv]; simp [ASt.drop]
             · first
               | (simp [subE, eget, ASt.drop, dropE, keepR, lowE, AV.lowB, lowL, Nat.blt, Nat.ble]; done)
               | (simp [subE, eget, ASt.drop, dropE, keepR, lowE, AV.lowB, lowL, Nat.blt, Nat.ble]; omega))
      by_cases h17 : kd ≤ 17
      · have hT1 := hgt2 (by omega) false
        have hT2 := hgt2 (by omega) true
        have hfit : fitsK kd ga gb = (ga == gb) := by exact fitsK_16 (by omega) (by omega)
        have hgv : givesB kd = true := givesB_hi (by omega)
        clear hgt hgt2 hga hgb ha hb
        repeat (any_goals (first | ((refine aops_cons (fun K' h' => ?_)); simp only [go_sem, Nat.reduceLT, Nat.reduceLeDiff, Nat.reduceEqDiff, reduceIte, Nat.reduceAdd, Nat.reduceMul, Nat.reduceSub, Int.reduceLT, Int.reduceLE, Int.reduceToNat, Int.reduceNeg, reduceCtorEq, hgs, Node.cells, hy, htk]; (try ((first | refine ⟨_, hT1, ?_⟩ | refine ⟨_, fun _ => hT2, ?_⟩); (try simp only [go_sem, Nat.reduceLT, Nat.reduceLeDiff, Nat.reduceEqDiff, reduceIte, Nat.reduceAdd, Nat.reduceMul, Nat.reduceSub, Int.reduceLT, Int.reduceLE, Int.reduceToNat, Int.reduceNeg, reduceCtorEq, hgs, Node.cells, hy, htk]))); (try simp (disch := omega) only [wrap_id, getD_map_in, Int.toNat_natCast, Node.cells, hy, htk]); (repeat (refine And.intro (by (omega)) ?_)); refine h' _ ?_; clear h' K') | (refine aops_nil (hK _ ?_); clear hK K hgs gs; try simp only [aThen, aBlock, aNoGoto]) | ((refine AWp.sreg (id := 22) dd98 rfl (fun gs K hgs hK => ?_)); replace hgs : gs 2 = some 63 ∧ gs 8 = some 69 ∧ gs 11 = some 72 := ⟨hgs 2, hgs 8, hgs 11⟩) | (refine AWp.sreg  dd98 rfl (fun gs K hgs hK => ?_); replace hgs : Nat.succ 0 = 1 := rfl) | refine AWp.seq ?_ | refine AWp.block ?_ | (refine AWp.ret ?_; try simp only [aThen, aBlock, aNoGoto]) | (refine AWp.skip ?_; try simp only [aThen, aBlock, aNoGoto]) | (refine AWp.reg  dd98 rfl (fun gs K hgs hK => ?_); replace hgs : Nat.succ 0 = 1 := rfl) | (refine AWp.cond rfl (fun h => ?_) (fun h => ?_) <;> (try simp only [decide_eq_true_eq, decide_eq_false_iff_not, beq_iff_eq, bne_iff_ne, ne_eq, Bool.not_eq_true', Bool.not_eq_false', beq_eq_false_iff_ne, Bool.true_eq_false, Bool.false_eq_true, Int.not_le, Int.not_lt, Bool.and_eq_true, Bool.and_eq_false_iff, Bool.or_eq_true, Bool.or_eq_false_iff, bne_eq_false_iff_eq, reduceCtorEq] at h) <;> (try first | contradiction | (exfalso; omega)))))
        all_goals first
          | (simp only [Out, outA, outL, resA, go_sem, Nat.reduceLT, Nat.reduceLeDiff, Nat.reduceEqDiff, reduceIte, Nat.reduceAdd, Nat.reduceMul, Nat.reduceSub, Int.reduceLT, Int.reduceLE, Int.reduceToNat, Int.reduceNeg, reduceCtorEq]
             have hf : fitsAt l k = false := by rw [hfd, hfit]; revert h; cases ga <;> cases gb <;> simp
             rw [hnk hf, if_neg (by omega)]
             exact AVle.tup ⟨AVle.nil 1, AVle.refl _, trivial⟩)
          | (refine ⟨k + 1, hfk (by rw [hfd, hfit]; revert h; cases ga <;> cases gb <;> simp), Wk.ofCut 1 1 rfl ?_ ?_, by omega⟩
             · rw [hsn, hgv]; simp [ASt.drop]
             · first
               | (simp [subE, eget, ASt.drop, dropE, keepR, lowE, AV.lowB, lowL, Nat.blt, Nat.ble]; done)
               | (simp [subE, eget, ASt.drop, dropE, keepR, lowE, AV.lowB, lowL, Nat.blt, Nat.ble]; omega))
      have hT1 := hgt2 (by omega) false
      have hT2 := hgt2 (by omega) true
      have hfit : fitsK kd ga gb = (ga && gb) := by exact fitsK_18 (by omega)
      have hgv : givesB kd = true := givesB_hi (by omega)
      clear hgt hgt2 hga hgb ha hb
      repeat (any_goals (first | ((refine aops_cons (fun K' h' => ?_)); simp only [go_sem, Nat.reduceLT, Nat.reduceLeDiff, Nat.reduceEqDiff, reduceIte, Nat.reduceAdd, Nat.reduceMul, Nat.reduceSub, Int.reduceLT, Int.reduceLE, Int.reduceToNat, Int.reduceNeg, reduceCtorEq, hgs, Node.cells, hy, htk]; (try ((first | refine ⟨_, fun _ => hT1, ?_⟩ | refine ⟨_, hT2, ?_⟩); (try simp only [go_sem, Nat.reduceLT, Nat.reduceLeDiff, Nat.reduceEqDiff, reduceIte, Nat.reduceAdd, Nat.reduceMul, Nat.reduceSub, Int.reduceLT, Int.reduceLE, Int.reduceToNat, Int.reduceNeg, reduceCtorEq, hgs, Node.cells, hy, htk]))); (try simp (disch := omega) only [wrap_id, getD_map_in, Int.toNat_natCast, Node.cells, hy, htk]); (repeat (refine And.intro (by (omega)) ?_)); refine h' _ ?_; clear h' K') | (refine aops_nil (hK _ ?_); clear hK K hgs gs; try simp only [aThen, aBlock, aNoGoto]) | ((refine AWp.sreg (id := 22) dd98 rfl (fun gs K hgs hK => ?_)); replace hgs : gs 2 = some 63 ∧ gs 8 = some 69 ∧ gs 11 = some 72 := ⟨hgs 2, hgs 8, hgs 11⟩) | (refine AWp.sreg  dd98 rfl (fun gs K hgs hK => ?_); replace hgs : Nat.succ 0 = 1 := rfl) | refine AWp.seq ?_ | refine AWp.block ?_ | (refine AWp.ret ?_; try simp only [aThen, aBlock, aNoGoto]) | (refine AWp.skip ?_; try simp only [aThen, aBlock, aNoGoto]) | (refine AWp.reg  dd98 rfl (fun gs K hgs hK => ?_); replace hgs : Nat.succ 0 = 1 := rfl) | (refine AWp.cond rfl (fun h => ?_) (fun h => ?_) <;> (try simp only [decide_eq_true_eq, decide_eq_false_iff_not, beq_iff_eq, bne_iff_ne, ne_eq, Bool.not_eq_true', Bool.not_eq_false', beq_eq_false_iff_ne, Bool.true_eq_false, Bool.false_eq_true, Int.not_le, Int.not_lt, Bool.and_eq_true, Bool.and_eq_false_iff, Bool.or_eq_true, Bool.or_eq_false_iff, bne_eq_false_iff_eq, reduceCtorEq] at h) <;> (try first | contradiction))))
      all_goals first
        | (simp only [Out, outA, outL, resA, go_sem, Nat.reduceLT, Nat.reduceLeDiff, Nat.reduceEqDiff, reduceIte, Nat.reduceAdd, Nat.reduceMul, Nat.reduceSub, Int.reduceLT, Int.reduceLE, Int.reduceToNat, Int.reduceNeg, reduceCtorEq]
           have hf : fitsAt l k = false := by rw [hfd, hfit]; revert h; cases ga <;> cases gb <;> simp
           rw [hnk hf, if_neg (by omega)]
           exact AVle.tup ⟨AVle.nil 1, AVle.refl _, trivial⟩)
        | (refine ⟨k + 1, hfk (by rw [hfd, hfit]; revert h; cases ga <;> cases gb <;> simp), Wk.ofCut 1 1 rfl ?_ ?_, by omega⟩
           · rw [hsn, hgv]; simp [ASt.drop]
           · first
             | (simp [subE, eget, ASt.drop, dropE, keepR, lowE, AV.lowB, lowL, Nat.blt, Nat.ble]; done)
             | (simp [subE, eget, ASt.drop, dropE, keepR, lowE, AV.lowB, lowL, Nat.blt, Nat.ble]; omega))
    · have hkl : k = l.length := by omega
      have hw : wrongL l = l.length := by omega
      subst hkl
      rw [hw, if_pos rfl]
      repeat (any_goals (first | ((refine aops_cons (fun K' h' => ?_)); simp only [go_sem, Nat.reduceLT, Nat.reduceLeDiff, Nat.reduceEqDiff, reduceIte, Nat.reduceAdd, Nat.reduceMul, Nat.reduceSub, Int.reduceLT, Int.reduceLE, Int.reduceToNat, Int.reduceNeg, reduceCtorEq, hgs, Node.cells, List.take_length]; (try simp (disch := omega) only [wrap_id, getD_map_in, Int.toNat_natCast, Node.cells, List.take_length]); (repeat (refine And.intro (by (omega)) ?_)); refine h' _ ?_; clear h' K') | (refine aops_nil (hK _ ?_); clear hK K hgs gs; try simp only [aThen, aBlock, aNoGoto]) | (refine AWp.sreg  dd98 rfl (fun gs K hgs hK => ?_); replace hgs : Nat.succ 0 = 1 := rfl) | (refine AWp.ret ?_; try simp only [aThen, aBlock, aNoGoto]) | (refine AWp.exit ?_; try simp only [aThen, aBlock, aNoGoto, Nat.reduceEqDiff, reduceIte])))
      simp only [Out, outA, outL, resA, go_sem, Nat.reduceLT, Nat.reduceLeDiff, Nat.reduceEqDiff, reduceIte, Nat.reduceAdd, Nat.reduceMul, Nat.reduceSub, Int.reduceLT, Int.reduceLE, Int.reduceToNat, Int.reduceNeg, reduceCtorEq]
      refine AVle.of_eq ?_
      rw [List.take_of_length_le (by simp)]
end Go.Proofs.YtjeehkdepoiegaaGreat
