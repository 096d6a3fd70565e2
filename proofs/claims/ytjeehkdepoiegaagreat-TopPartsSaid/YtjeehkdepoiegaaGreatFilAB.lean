/-
  What the rounds of filtered30's loop over messages share; rounds that yield nothing, a late record, a record.
-/
import Derived.Test.YtjeehkdepoiegaaGreatFacts
import Derived.Test.YtjeehkdepoiegaaGreatQryW
import Derived.Test.YtjeehkdepoiegaaGreatPlnM
import Derived.Test.YtjeehkdepoiegaaGreatAbsPQ
namespace Go.Proofs.YtjeehkdepoiegaaGreat
open Go.AL Go.RowKit
set_option linter.unusedSimpArgs false
set_option linter.unusedVariables false
set_option maxRecDepth 10000
set_option maxHeartbeats 8000000
def fltC (mk : Int) (X : AV) : List AV := [.lit (.int .u8 2), .lit (.int .i64 0), .lit (.int .i64 0), X, .ro 1 [[.lit (.int .i64 mk)]], .ro 11 [], .ro 5 [], .ro 5 [], .ro 3 []]
def splC (X : AV) : List AV := [.lit (.int .u8 3), .lit (.int .i64 0), .lit (.int .i64 0), X, .ro 1 [], .ro 11 [], .ro 5 [], .ro 5 [], .ro 3 []]
def dd13 : Nat → List (List Nat)
  | 0 => [[], [0], [8]]
  | 1 => [[], [], [39], [], [38], [], [40], [41]]
  | 2 => [[], [], [43], [], [42], [], [44], [45]]
  | 3 => [[], [], [47], [48], [], [], [46], [49], [50], [51]]
  | 4 => [[], [10], [52], [53], [12], [55], [54, 56], [57], [15], [59], [58, 60]]
  | 5 => [[1, 2, 3, 4, 9, 11, 13, 14, 61], []]
  | 6 => [[61], [], []]
  | 7 => [[], [], [62]]
  | 8 => [[], []]
  | 9 => [[], [], [], [64], [63, 65]]
  | 10 => [[20, 22, 23, 25, 92, 119], [19], [67], [68]]
  | 12 => [[], [21], [79], [80], [], [82], [83], [84], [81, 85]]
  | 13 => [[1, 2, 3, 4, 9, 11, 13, 14, 16, 17, 18, 19, 20, 86], []]
  | 14 => [[86], [], [87]]
  | 15 => [[], [], [88]]
  | 16 => [[], [], [89], [90], [91]]
  | 17 => [[92], [20], [93], [94], [95], [96], [], [97]]
  | 18 => [[], [], [98], [99]]
  | 19 => [[100], [16], [22], [102], [103], [101, 104], [105]]
  | 20 => [[100], [], [], [], [107, 108, 109], [110], [], [106], [], [111], [112]]
  | 21 => [[], [24], [113]]
  | 22 => [[1, 2, 3, 4, 9, 11, 13, 14, 16, 17, 18, 19, 22, 23, 114], []]
  | 23 => [[114], []]
  | 24 => [[], [], [], [116], [117], [115, 118]]
  | 25 => [[], [25], [120], [121]]
  | 26 => [[119], [], [122], [], [123, 124], [125], [126], [127]]
  | 28 => [[1, 2, 3, 4, 9, 11, 13, 14, 16, 17, 18, 19, 22, 23, 25, 26, 144], []]
  | 29 => [[144], [], [145], [146]]
  | 30 => [[147], [], [26], [], [150], [151], [148, 149], [152, 153]]
  | 31 => [[147], [], [155], [156], [], [157, 158], [159], [], [154], [160], [161]]
  | 32 => [[], [28], [162], [163], [27], [26], [165, 166], [164, 167]]
  | 33 => [[1, 2, 3, 4, 9, 11, 13, 14, 16, 17, 18, 19, 22, 23, 25, 168], []]
  | 34 => [[168], [17], [], [170], [171], [169, 172], [173]]
  | 35 => [[2, 9, 11, 19, 66], []]
  | 36 => [[], []]
  | 37 => [[], [], [], [175], [174, 176]]
  | 38 => [[31, 192], [30], [178], [179]]
  | 40 => [[], [33], [190]]
  | 41 => [[1, 3, 4, 13, 14, 16, 17, 18, 29, 30, 31, 32, 191], []]
  | 42 => [[191], [32]]
  | 43 => [[192], [29], [31], [194], [193, 195], [196]]
  | 44 => [[13, 30, 177], [], []]
  | 45 => [[], []]
  | 46 => [[], [], [], [198], [197, 199]]
  | 47 => [[229], [36], [201], [202]]
  | 48 => [[200], [], [], [203, 204], [205], [206], [207], [], [], [209, 210], [211], [212], [], [213, 214], [208, 215]]
  | 50 => [[216], [], [], [224, 225], [226], [227], [228]]
  | 51 => [[1, 3, 4, 14, 16, 17, 18, 29, 34, 35, 36, 229], []]
  | 52 => [[1, 35, 36, 200], []]
  | 53 => [[], [], [], [230, 231]]
  | 54 => [[240], [37], [233], [234]]
  | 55 => [[232], [], [], [235, 236], [237], [], [238, 239]]
  | 56 => [[3, 4, 14, 16, 17, 18, 29, 34, 37, 240], []]
  | 57 => [[3, 18, 34, 37, 232], [4], [241], [242]]
  | 58 => [[14, 243], []]
  | 59 => [[243], [17], [29], [244, 245], [246], [16], [14], [248, 249], [247, 250], [251]]
  | _ => []
def fo13 : Nat → List Nat
  | 11 => [1, 2, 3, 4, 9, 11, 13, 14, 16, 17, 18, 19, 20, 21]
  | 27 => [1, 2, 3, 4, 9, 11, 13, 14, 16, 17, 18, 19, 22, 23, 25, 26, 144]
  | 39 => [1, 3, 4, 13, 14, 16, 17, 18, 29, 30, 31, 32, 33]
  | 49 => [1, 3, 4, 14, 16, 17, 18, 29, 34, 35, 36]
  | _ => []
def loopOf : Code → Option Code
  | .seq x y => match loopOf x with
    | some c => some c
    | none => loopOf y
  | .block _ c => loopOf c
  | .cond _ x y => match loopOf x with
    | some c => some c
    | none => loopOf y
  | .loop c => some c
  | _ => none
noncomputable def fBody : Code := (Tryz.f13.body.bind loopOf).getD .skip
def fInv (q : Qry) (l : List Ev) (ms : List Msg) (p : Int) (R L : List (List AV)) (aa ps : List Rcd) (mc : List (List AV)) (mk : Int) (k : Nat) : ASt :=
  ⟨[(1, .ro 5 (l.map Ev.cells)), (2, .ro 10 (ms.map Msg.cells)), (3, .lit (.int .i64 p)), (4, .bp 0 0), (9, .bp 1 0), (11, .bp 2 0), (13, .ro 3 R), (14, .ro 3 L), (16, .own 1 3 0 aa.length), (17, .own 2 3 0 ps.length), (18, .own 0 1 0 3), (19, .lit (.int .i64 (k : Int)))],
    [q.cells, fltC mk (.lit (.slice none 0 0)), splC (.ro 11 [])], [some ⟨3, 1, mc⟩, some ⟨55, 3, aa.map Rcd.cells⟩, some ⟨55, 3, ps.map Rcd.cells⟩]⟩
def fRound (q : Qry) (l : List Ev) (ms : List Msg) (p : Int) (R L : List (List AV)) (k : Nat) (aa ps : List Rcd) (mc : List (List AV)) (mk : Int) (aa' ps' : List Rcd) (mc' : List (List AV)) (mk' : Int) : Prop :=
  AWp Tryz.prog 252 fBody (fun e s => e = .normal ∧ Wk s (fInv q l ms p R L aa' ps' mc' mk' (k + 1))) (fInv q l ms p R L aa ps mc mk k)
def fTake (q : Qry) (mk : Int) (m : Msg) (X : List (List AV)) (mk' : Int) : Prop := ACall Tryz.prog 32 [.agg q.cells, .agg (fltC mk (.lit (.slice none 0 0))), .agg m.cells] (.tup [.agg (fltC mk' (.ro 11 X)), .lit (.int .i64 0)])
def pTake (c : List AV) (p : Int) (X : List (List AV)) : Prop := ACall Tryz.prog 33 [.agg (splC (.ro 11 [])), .agg c, .lit (.int .i64 p)] (.tup [.agg (splC (.ro 11 X)), .lit (.int .i64 0)])
theorem fround_0 (q : Qry) (l : List Ev) (ms : List Msg) (p : Int) (R L : List (List AV)) (k : Nat) (aa ps : List Rcd) (mc : List (List AV)) (mk mk' : Int) (m : Msg) (hl : ms.length ≤ 60) (hk : k < ms.length) (hm : ms.getD k default = m) (ha : aa.length ≤ 60) (hp : ps.length ≤ 60)
    (hTk : fTake q mk m [] mk') : fRound q l ms p R L k aa ps mc mk aa ps mc mk' := by
  unfold fRound fInv
  unfold fTake at hTk
  obtain ⟨ag, ar, sr, jn, wh, ⟨kd, sz, ev⟩, bk, lt⟩ := q
  obtain ⟨kdm, kx, rt, v, tt, r1, r2, r3, r4, r5⟩ := m
  unfold Qry.cells nodesV intsV fltC splC at *
  simp only [Msg.cells] at *
  refine AWp.seq ?_
  repeat (any_goals (first | ((first | refine aops_cons (fun K' h' => ?_) | refine aopsM_cons (fun K' h' => ?_)); simp only [go_sem, Nat.reduceLT, Nat.reduceLeDiff, Nat.reduceEqDiff, reduceIte, Nat.reduceAdd, Nat.reduceMul, Nat.reduceSub, Int.reduceLT, Int.reduceLE, Int.reduceToNat, Int.reduceNeg, reduceCtorEq, hgs, aopG, bne_self_eq_false, Bool.not_false, beq_self_eq_true, hm, Msg.cells]; (try ((refine ⟨_, hTk, ?_⟩); (try simp only [go_sem, Nat.reduceLT, Nat.reduceLeDiff, Nat.reduceEqDiff, reduceIte, Nat.reduceAdd, Nat.reduceMul, Nat.reduceSub, Int.reduceLT, Int.reduceLE, Int.reduceToNat, Int.reduceNeg, reduceCtorEq, hgs, aopG, bne_self_eq_false, Bool.not_false, beq_self_eq_true, hm, Msg.cells]))); (try simp (disch := omega) only [wrap_id, getD_map_in, Int.toNat_natCast, aopG, bne_self_eq_false, Bool.not_false, beq_self_eq_true, hm, Msg.cells]); (repeat (refine And.intro (by (first | omega | (simp; done))) ?_)); refine h' _ ?_; clear h' K') | (refine aops_nil (hK _ ?_); clear hK K hgs gs; try simp only [aThen, aBlock]) | ((refine AWp.sreg (id := 12) dd13 rfl (fun gs K hgs hK => ?_)); replace hgs : gs 2 = some 81 := hgs 2) | (refine AWp.sreg  dd13 rfl (fun gs K hgs hK => ?_); replace hgs : Nat.succ 0 = 1 := rfl) | refine AWp.seq ?_ | refine AWp.block ?_ | (refine AWp.skip ?_; try simp only [aThen, aBlock]) | (refine AWp.exit ?_; try simp only [aThen, aBlock, Nat.reduceEqDiff, reduceIte]) | (refine AWp.reg  dd13 rfl (fun gs K hgs hK => ?_); replace hgs : Nat.succ 0 = 1 := rfl) | ((refine AWp.regM (id := 11) fo13 (true, false) mo_fact (by kernel_rfl) (by kernel_rfl) (fun gs K hgs hK => ?_)); replace hgs : Nat.succ 0 = 1 := rfl) | (refine aopsM_nil (hK _ ?_); clear hK K hgs gs; simp only [fo13]; simp only [ASt.prune, pruneE, keepB, keepR, Bool.or_false, Bool.or_true, Bool.true_or, Bool.false_or, reduceIte, Bool.or_self, Bool.false_eq_true, aThen, aBlock, Nat.reduceEqDiff]) | (refine AWp.cond rfl (fun h => ?_) (fun h => ?_) <;> (try simp only [decide_eq_true_eq, decide_eq_false_iff_not, beq_iff_eq, bne_iff_ne, ne_eq, Bool.not_eq_true', Bool.not_eq_false', beq_eq_false_iff_ne, Bool.true_eq_false, Bool.false_eq_true, Int.not_le, Int.not_lt, Bool.and_eq_true, Bool.and_eq_false_iff, Bool.or_eq_true, Bool.or_eq_false_iff, bne_eq_false_iff_eq, reduceCtorEq] at h) <;> (try first | (exfalso; omega)))))
  all_goals first
    | (exfalso; omega)
    | skip
  refine ⟨by simp, Wk.ofCut 3 3 ?_ ?_ ?_⟩
  · simp [lowBx, ASt.drop, AV.lowB, lowE]
  · simp [ASt.drop]
  · first
    | (simp [subE, eget, ASt.drop, dropE, keepR, lowE, AV.lowB, lowL, Nat.blt, Nat.ble]; done)
    | (simp [subE, eget, ASt.drop, dropE, keepR, lowE, AV.lowB, lowL, Nat.blt, Nat.ble]; omega)
theorem fround_l (q : Qry) (l : List Ev) (ms : List Msg) (p : Int) (R L : List (List AV)) (k : Nat) (aa ps : List Rcd) (mc : List (List AV)) (mk : Int) (m : Msg) (hl : ms.length ≤ 60) (hk : k < ms.length) (hm : ms.getD k default = m) (ha : aa.length ≤ 60) (hp : ps.length ≤ 60) (r : Rcd)
    (hTk : fTake q mk m [[.lit (.int .i64 1), .lit (.int .u8 4), .lit (.int .i64 r.key), .lit (.int .i64 r.t), .lit (.int .i64 r.v), .lit (.int .i64 0), .lit (.int .i64 0), .lit (.int .i64 0), .lit (.int .i64 0), .lit (.int .i64 0), .lit (.int .i64 0)]] mk) : fRound q l ms p R L k aa ps mc mk (aa ++ [r]) ps mc mk := by
  unfold fRound fInv
  unfold fTake at hTk
  obtain ⟨ag, ar, sr, jn, wh, ⟨kd, sz, ev⟩, bk, lt⟩ := q
  obtain ⟨kdm, kx, rt, v, tt, r1, r2, r3, r4, r5⟩ := m
  obtain ⟨x1, x2, x3⟩ := r
  unfold Qry.cells nodesV intsV fltC splC at *
  simp only [Msg.cells] at *
  refine AWp.seq ?_
  repeat (any_goals (first | ((first | refine aops_cons (fun K' h' => ?_) | refine aopsM_cons (fun K' h' => ?_)); simp only [go_sem, Nat.reduceLT, Nat.reduceLeDiff, Nat.reduceEqDiff, reduceIte, Nat.reduceAdd, Nat.reduceMul, Nat.reduceSub, Int.reduceLT, Int.reduceLE, Int.reduceToNat, Int.reduceNeg, reduceCtorEq, hgs, aopG, bne_self_eq_false, Bool.not_false, beq_self_eq_true, hm, Msg.cells]; (try ((refine ⟨_, hTk, ?_⟩); (try simp only [go_sem, Nat.reduceLT, Nat.reduceLeDiff, Nat.reduceEqDiff, reduceIte, Nat.reduceAdd, Nat.reduceMul, Nat.reduceSub, Int.reduceLT, Int.reduceLE, Int.reduceToNat, Int.reduceNeg, reduceCtorEq, hgs, aopG, bne_self_eq_false, Bool.not_false, beq_self_eq_true, hm, Msg.cells]))); (try simp (disch := omega) only [wrap_id, getD_map_in, Int.toNat_natCast, aopG, bne_self_eq_false, Bool.not_false, beq_self_eq_true, hm, Msg.cells]); (repeat (refine And.intro (by (first | omega | (simp; done))) ?_)); refine h' _ ?_; clear h' K') | (refine aops_nil (hK _ ?_); clear hK K hgs gs; try simp only [aThen, aBlock]) | ((refine AWp.sreg (id := 12) dd13 rfl (fun gs K hgs hK => ?_)); replace hgs : gs 2 = some 81 := hgs 2) | (refine AWp.sreg  dd13 rfl (fun gs K hgs hK => ?_); replace hgs : Nat.succ 0 = 1 := rfl) | refine AWp.seq ?_ | refine AWp.block ?_ | (refine AWp.skip ?_; try simp only [aThen, aBlock]) | (refine AWp.exit ?_; try simp only [aThen, aBlock, Nat.reduceEqDiff, reduceIte]) | (refine AWp.reg  dd13 rfl (fun gs K hgs hK => ?_); replace hgs : Nat.succ 0 = 1 := rfl) | ((refine AWp.regM (id := 11) fo13 (true, false) mo_fact (by kernel_rfl) (by kernel_rfl) (fun gs K hgs hK => ?_)); replace hgs : Nat.succ 0 = 1 := rfl) | (refine aopsM_nil (hK _ ?_); clear hK K hgs gs; simp only [fo13]; simp only [ASt.prune, pruneE, keepB, keepR, Bool.or_false, Bool.or_true, Bool.true_or, Bool.false_or, reduceIte, Bool.or_self, Bool.false_eq_true, aThen, aBlock, Nat.reduceEqDiff]) | (refine AWp.cond rfl (fun h => ?_) (fun h => ?_) <;> (try simp only [decide_eq_true_eq, decide_eq_false_iff_not, beq_iff_eq, bne_iff_ne, ne_eq, Bool.not_eq_true', Bool.not_eq_false', beq_eq_false_iff_ne, Bool.true_eq_false, Bool.false_eq_true, Int.not_le, Int.not_lt, Bool.and_eq_true, Bool.and_eq_false_iff, Bool.or_eq_true, Bool.or_eq_false_iff, bne_eq_false_iff_eq, reduceCtorEq] at h) <;> (try first | contradiction | (exfalso; omega)))))
  all_goals first
    | (exfalso; omega)
    | skip
  refine ⟨by simp, Wk.ofCut 3 3 ?_ ?_ ?_⟩
  · simp [lowBx, ASt.drop, AV.lowB, lowE]
  · simp [ASt.drop, List.take_of_length_le, Rcd.cells]
  · simp only [List.length_append, List.length_cons, List.length_nil, Nat.zero_add]
    first
    | (simp [subE, eget, ASt.drop, dropE, keepR, lowE, AV.lowB, lowL, Nat.blt, Nat.ble]; done)
    | (simp [subE, eget, ASt.drop, dropE, keepR, lowE, AV.lowB, lowL, Nat.blt, Nat.ble]; omega)
end Go.Proofs.YtjeehkdepoiegaaGreat
namespace Go.Proofs.YtjeehkdepoiegaaGreat
open Go.AL Go.RowKit
set_option linter.unusedSimpArgs false
set_option linter.unusedVariables false
set_option maxRecDepth 10000
set_option maxHeartbeats 8000000
theorem fround_r (q : Qry) (l : List Ev) (ms : List Msg) (p : Int) (R L : List (List AV)) (k : Nat) (aa ps : List Rcd) (mc : List (List AV)) (mk : Int) (m : Msg) (hl : ms.length ≤ 60) (hk : k < ms.length) (hm : ms.getD k default = m) (ha : aa.length ≤ 60) (hp : ps.length ≤ 60) (r : Rcd) (o : Int) (ho : 0 ≤ o ∧ o < p)
    (hTk : fTake q mk m [[.lit (.int .i64 0), .lit (.int .u8 1), .lit (.int .i64 r.key), .lit (.int .i64 r.t), .lit (.int .i64 r.v), .lit (.int .i64 0), .lit (.int .i64 0), .lit (.int .i64 0), .lit (.int .i64 0), .lit (.int .i64 0), .lit (.int .i64 0)]] mk)
    (hPt : pTake [.lit (.int .u8 1), .lit (.int .i64 r.key), .lit (.int .i64 r.t), .lit (.int .i64 r.v), .lit (.int .i64 0), .lit (.int .i64 0), .lit (.int .i64 0), .lit (.int .i64 0), .lit (.int .i64 0), .lit (.int .i64 0)] p [[.lit (.int .i64 o), .lit (.int .u8 1), .lit (.int .i64 r.key), .lit (.int .i64 r.t), .lit (.int .i64 r.v), .lit (.int .i64 0), .lit (.int .i64 0), .lit (.int .i64 0), .lit (.int .i64 0), .lit (.int .i64 0), .lit (.int .i64 0)]])
    (hOf : ACall Tryz.prog 34 [.lit (.int .i64 r.key), .lit (.int .i64 p)] (.tup [.lit (.int .i64 o), .lit (.int .i64 0)])) : fRound q l ms p R L k aa ps mc mk aa (ps ++ [r]) mc mk := by
  unfold fRound fInv
  unfold fTake at hTk
  unfold pTake at hPt
  obtain ⟨ag, ar, sr, jn, wh, ⟨kd, sz, ev⟩, bk, lt⟩ := q
  obtain ⟨kdm, kx, rt, v, tt, r1, r2, r3, r4, r5⟩ := m
  obtain ⟨x1, x2, x3⟩ := r
  unfold Qry.cells nodesV intsV fltC splC at *
  simp only [Msg.cells] at *
  refine AWp.seq ?_
  repeat (any_goals (first | ((first | refine aops_cons (fun K' h' => ?_) | refine aopsM_cons (fun K' h' => ?_)); simp only [go_sem, Nat.reduceLT, Nat.reduceLeDiff, Nat.reduceEqDiff, reduceIte, Nat.reduceAdd, Nat.reduceMul, Nat.reduceSub, Int.reduceLT, Int.reduceLE, Int.reduceToNat, Int.reduceNeg, reduceCtorEq, hgs, aopG, bne_self_eq_false, Bool.not_false, beq_self_eq_true, hm, Msg.cells]; (try ((first | refine ⟨_, hTk, ?_⟩ | refine ⟨_, hPt, ?_⟩); (try simp only [go_sem, Nat.reduceLT, Nat.reduceLeDiff, Nat.reduceEqDiff, reduceIte, Nat.reduceAdd, Nat.reduceMul, Nat.reduceSub, Int.reduceLT, Int.reduceLE, Int.reduceToNat, Int.reduceNeg, reduceCtorEq, hgs, aopG, bne_self_eq_false, Bool.not_false, beq_self_eq_true, hm, Msg.cells]))); (try simp (disch := omega) only [wrap_id, getD_map_in, Int.toNat_natCast, aopG, bne_self_eq_false, Bool.not_false, beq_self_eq_true, hm, Msg.cells]); (repeat (refine And.intro (by (first | omega | (simp; done))) ?_)); refine h' _ ?_; clear h' K') | (refine aops_nil (hK _ ?_); clear hK K hgs gs; try simp only [aThen, aBlock]) | ((refine AWp.sreg (id := 12) dd13 rfl (fun gs K hgs hK => ?_)); replace hgs : gs 2 = some 81 := hgs 2) | (refine AWp.sreg  dd13 rfl (fun gs K hgs hK => ?_); replace hgs : Nat.succ 0 = 1 := rfl) | refine AWp.seq ?_ | refine AWp.block ?_ | (refine AWp.skip ?_; try simp only [aThen, aBlock]) | ((refine AWp.regM (id := 11) fo13 (true, false) mo_fact (by kernel_rfl) (by kernel_rfl) (fun gs K hgs hK => ?_)); replace hgs : Nat.succ 0 = 1 := rfl) | (refine aopsM_nil (hK _ ?_); clear hK K hgs gs; simp only [fo13]; simp only [ASt.prune, pruneE, keepB, keepR, Bool.or_false, Bool.or_true, Bool.true_or, Bool.false_or, reduceIte, Bool.or_self, Bool.false_eq_true, aThen, aBlock, Nat.reduceEqDiff]) | (refine AWp.cond rfl (fun h => ?_) (fun h => ?_) <;> (try simp only [decide_eq_true_eq, decide_eq_false_iff_not, beq_iff_eq, bne_iff_ne, ne_eq, Bool.not_eq_true', Bool.not_eq_false', beq_eq_false_iff_ne, Bool.true_eq_false, Bool.false_eq_true, Int.not_le, Int.not_lt, Bool.and_eq_true, Bool.and_eq_false_iff, Bool.or_eq_true, Bool.or_eq_false_iff, bne_eq_false_iff_eq, reduceCtorEq] at h) <;> (try first | contradiction | (exfalso; omega)))))
  refine AWp.loopR 2 ?_
  repeat (any_goals (first | ((first | refine aops_cons (fun K' h' => ?_) | refine aopsD_cons (fun K' h' => ?_)); simp only [go_sem, Nat.reduceLT, Nat.reduceLeDiff, Nat.reduceEqDiff, reduceIte, Nat.reduceAdd, Nat.reduceMul, Nat.reduceSub, Int.reduceLT, Int.reduceLE, Int.reduceToNat, Int.reduceNeg, reduceCtorEq, hgs, aopG, bne_self_eq_false, Bool.not_false, beq_self_eq_true, hm, Msg.cells]; (try ((refine ⟨_, hOf, ?_⟩); (try simp only [go_sem, Nat.reduceLT, Nat.reduceLeDiff, Nat.reduceEqDiff, reduceIte, Nat.reduceAdd, Nat.reduceMul, Nat.reduceSub, Int.reduceLT, Int.reduceLE, Int.reduceToNat, Int.reduceNeg, reduceCtorEq, hgs, aopG, bne_self_eq_false, Bool.not_false, beq_self_eq_true, hm, Msg.cells]))); (try simp (disch := omega) only [wrap_id, getD_map_in, Int.toNat_natCast, aopG, bne_self_eq_false, Bool.not_false, beq_self_eq_true, hm, Msg.cells]); (repeat (refine And.intro (by (omega)) ?_)); refine h' _ ?_; clear h' K') | (refine aops_nil (hK _ ?_); clear hK K hgs gs; try simp only [aThen, aBlock]) | ((refine AWp.sreg (id := 32) dd13 rfl (fun gs K hgs hK => ?_)); replace hgs : gs 2 = some 164 := hgs 2) | (refine AWp.sreg  dd13 rfl (fun gs K hgs hK => ?_); replace hgs : Nat.succ 0 = 1 := rfl) | refine AWp.seq ?_ | refine AWp.block ?_ | (refine AWp.skip ?_; try simp only [aThen, aBlock]) | (refine AWp.exit ?_; try simp only [aThen, aBlock, Nat.reduceEqDiff, reduceIte]) | (refine AWp.reg  dd13 rfl (fun gs K hgs hK => ?_); replace hgs : Nat.succ 0 = 1 := rfl) | ((refine AWp.regD (id := 27) fo13 mo_fact (by kernel_rfl) (fun gs K hgs hK => ?_)); replace hgs : gs 2 = some 130 ∧ gs 7 = some 135 := ⟨hgs 2, hgs 7⟩) | (refine aopsD_nil (hK _ ?_); clear hK K hgs gs; simp only [fo13]; simp only [ASt.prune, pruneE, keepB, keepR, Bool.or_false, Bool.or_true, Bool.true_or, Bool.false_or, reduceIte, Bool.or_self, Bool.false_eq_true, aThen, aBlock, Nat.reduceEqDiff]) | (refine AWp.cond rfl (fun h => ?_) (fun h => ?_) <;> (try simp only [decide_eq_true_eq, decide_eq_false_iff_not, beq_iff_eq, bne_iff_ne, ne_eq, Bool.not_eq_true', Bool.not_eq_false', beq_eq_false_iff_ne, Bool.true_eq_false, Bool.false_eq_true, Int.not_le, Int.not_lt, Bool.and_eq_true, Bool.and_eq_false_iff, Bool.or_eq_true, Bool.or_eq_false_iff, bne_eq_false_iff_eq, reduceCtorEq] at h) <;> (try first | contradiction | (exfalso; omega)))))
  all_goals first
    | (exfalso; omega)
    | skip
  refine ⟨by simp, Wk.ofCut 3 3 ?_ ?_ ?_⟩
  · simp [lowBx, ASt.drop, AV.lowB, lowE]
  · simp [ASt.drop, List.take_of_length_le, Rcd.cells]
  · simp only [List.length_append, List.length_cons, List.length_nil, Nat.zero_add]
    first
    | (simp [subE, eget, ASt.drop, dropE, keepR, lowE, AV.lowB, lowL, Nat.blt, Nat.ble]; done)
    | (simp [subE, eget, ASt.drop, dropE, keepR, lowE, AV.lowB, lowL, Nat.blt, Nat.ble]; omega)
end Go.Proofs.YtjeehkdepoiegaaGreat
