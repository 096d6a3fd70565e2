/-
  What the rounds of FilterMarks share.
-/
import Derived.Test.YtfmnjgjfkfppkaaFAlv
import Derived.Test.YtfmnjgjfkfppkaaFShp
import Derived.Test.YtfmnjgjfkfppkaaTskS
namespace Go.Proofs.Ytfmnjgjfkfppkaa
open Go.AL Go.RowKit
set_option linter.unusedSimpArgs false
set_option linter.unusedVariables false
set_option maxRecDepth 10000
set_option maxHeartbeats 8000000

theorem greatF_fit2 {q : Qry} (h : greatF q = false) (hb : ∀ x ∈ q.src, -9223372036854775808 ≤ x ∧ x ≤ 9223372036854775807) (n1 : nodesB q.arg) (n2 : nodesB q.wh) : q.fit := by
  unfold greatF at h
  simp only [Bool.or_eq_false_iff, decide_eq_false_iff_not] at h
  exact ⟨by omega, by omega, by omega, hb, n1, n2⟩
theorem takeF_bad (q : Qry) (n tn mk : Int) (m : Msg) (hq : q.fit) (ha : accE q = 0) (ht : tskE ⟨2, n, tn, [], [mk], [], [], [], []⟩ = 0) (hm : carrF m = false) :
    ACall Try.prog 8 [.agg q.cells, .agg (Tsk.mk 2 n tn [] [mk] [] [] [] []).cells, .agg m.cells] (.tup [.agg zeroT.cells, .lit (.int .i64 8)]) := by
  have hAa := accepted_c q hq
  rw [decide_eq_true ha] at hAa
  have hCk := tCheck_c (Tsk.mk 2 n tn [] [mk] [] [] [] []) ⟨by simp [maxLen], by simp [maxLen], by simp [maxLen], by simp [maxLen], by simp [maxLen], by simp [maxLen]⟩
  rw [ht] at hCk
  have hM := mCheck_c m
  have hz := zeroT_le
  have hc : errM m = 8 ∨ (errM m = 0 ∧ m.kind ≠ 1 ∧ m.kind ≠ 2) := by
    unfold errM
    cases hv : validM m
    · exact .inl rfl
    · refine .inr ⟨rfl, fun h => ?_, fun h => ?_⟩
      · unfold carrF at hm; rw [hv, h] at hm; simp at hm
      · unfold carrF at hm; rw [hv, h] at hm; simp at hm
  generalize errM m = em at *
  clear hq ha ht hm
  obtain ⟨ag, ar, sr, jn, wh, ⟨kd, sz, ev⟩, bk, lt⟩ := q
  obtain ⟨kdm, k, rt, v, tt, r1, r2, r3, r4, r5⟩ := m
  unfold Qry.cells Msg.cells Tsk.cells nodesV intsV sndsV mksV entsV evsV rowsV rcdsV zeroT at *
  simp only [List.map_nil, List.map_cons, intC] at *
  rcases hc with rfl | ⟨rfl, c1, c2⟩
  all_goals
    refine acall_of (n := 124) (rs := [.cell 6 40, .tmp 7]) Try.func8 rfl (by kernel_rfl) rfl rfl rfl ?_; simp only [argsE, Nat.reduceAdd]
    repeat (any_goals (first | (refine aops_cons (fun K' h' => ?_); simp only [go_sem, Nat.reduceLT, Nat.reduceLeDiff, Nat.reduceEqDiff, reduceIte, Nat.reduceAdd, Nat.reduceMul, Nat.reduceSub, Int.reduceLT, Int.reduceLE, Int.reduceToNat, Int.reduceNeg, reduceCtorEq, hgs, aopG, bne_self_eq_false, Bool.not_false, beq_self_eq_true]; first | ((try simp (disch := omega) only [wrap_id, getD_map_in, Int.toNat_natCast, aopG, bne_self_eq_false, Bool.not_false, beq_self_eq_true]); (repeat (refine And.intro (by (first | omega | (simp; done) | (simp; omega) | assumption)) ?_)); refine h' _ ?_; clear h' K') | ((first | refine ⟨_, hAa, ?_⟩ | refine ⟨_, fun _ => hAa, ?_⟩ | refine ⟨_, hCk, ?_⟩ | refine ⟨_, fun _ => hCk, ?_⟩ | refine ⟨_, hM, ?_⟩ | refine ⟨_, fun _ => hM, ?_⟩ | refine ⟨_, hP2, ?_⟩ | refine ⟨_, fun _ => hP2, ?_⟩ | refine ⟨_, hP3, ?_⟩ | refine ⟨_, fun _ => hP3, ?_⟩); (try simp only [go_sem, Nat.reduceLT, Nat.reduceLeDiff, Nat.reduceEqDiff, reduceIte, Nat.reduceAdd, Nat.reduceMul, Nat.reduceSub, Int.reduceLT, Int.reduceLE, Int.reduceToNat, Int.reduceNeg, reduceCtorEq, hgs, aopG, bne_self_eq_false, Bool.not_false, beq_self_eq_true]); (try simp (disch := omega) only [wrap_id, getD_map_in, Int.toNat_natCast, aopG, bne_self_eq_false, Bool.not_false, beq_self_eq_true]); (repeat (refine And.intro (by (first | omega | (simp; done) | (simp; omega) | assumption)) ?_)); refine h' _ ?_; clear h' K')) | (refine aops_nil (hK _ ?_); clear hK K hgs gs; try simp only [aThen, aBlock]) | ((first | refine AWp.sreg (id := 8) dd8 rfl (fun gs K hgs hK => ?_) | refine AWp.reg (id := 8) dd8 rfl (fun gs K hgs hK => ?_)); replace hgs : gs 3 = some 33 ∧ gs 7 = some 37 := ⟨hgs 3, hgs 7⟩) | (refine AWp.sreg  dd8 rfl (fun gs K hgs hK => ?_); replace hgs : Nat.succ 0 = 1 := rfl) | refine AWp.seq ?_ | refine ARounds.step ?_ | refine AWp.block ?_ | refine AWp.label ?_ | (refine AWp.ret ?_; try simp only [aThen, aBlock]) | (refine AWp.skip ?_; try simp only [aThen, aBlock]) | (refine AWp.exit ?_; try simp only [aThen, aBlock, Nat.reduceEqDiff, reduceIte]) | (refine AWp.reg  dd8 rfl (fun gs K hgs hK => ?_); replace hgs : Nat.succ 0 = 1 := rfl) | (refine aops_consG (fun K' h' => ?_); simp only [go_sem, Nat.reduceLT, Nat.reduceLeDiff, Nat.reduceEqDiff, reduceIte, Nat.reduceAdd, Nat.reduceMul, Nat.reduceSub, Int.reduceLT, Int.reduceLE, Int.reduceToNat, Int.reduceNeg, reduceCtorEq, hgs, aopG, bne_self_eq_false, Bool.not_false, beq_self_eq_true]; (try simp (disch := omega) only [wrap_id, getD_map_in, Int.toNat_natCast, aopG, bne_self_eq_false, Bool.not_false, beq_self_eq_true]); (repeat (refine And.intro (by (first | omega | (simp; done) | (simp; omega) | assumption)) ?_)); refine h' _ ?_; clear h' K') | (refine AWp.cond rfl (fun h => ?_) (fun h => ?_) <;> (try simp only [decide_eq_true_eq, decide_eq_false_iff_not, beq_iff_eq, bne_iff_ne, ne_eq, Bool.not_eq_true', Bool.not_eq_false', beq_eq_false_iff_ne, Bool.true_eq_false, Bool.false_eq_true, Int.not_le, Int.not_lt, Bool.and_eq_true, Bool.and_eq_false_iff, Bool.or_eq_true, Bool.or_eq_false_iff, bne_eq_false_iff_eq, reduceCtorEq] at h) <;> (try first | contradiction | (exfalso; omega) | (exfalso; revert h; simp; done) | (exfalso; revert h; simp; omega)))))
    all_goals first
      | (exfalso; omega)
      | skip
    all_goals simp only [Out, outA, outL, resA, go_sem, Nat.reduceLT, Nat.reduceLeDiff, Nat.reduceEqDiff, reduceIte, Nat.reduceAdd, Nat.reduceMul, Nat.reduceSub, Int.reduceLT, Int.reduceLE, Int.reduceToNat, Int.reduceNeg, reduceCtorEq]
    all_goals exact AVle.tup ⟨hz, AVle.refl _, trivial⟩
theorem HR.leBoxes {w : World} {B : Nat} {S : Nat → Prop} {γ : List Nat} {ρ : List Value} {boxes : List (List AV)} {rows : List (Option Row)} (h : HR w B S γ ρ boxes rows) (f : AV → AV) (hf : ∀ c, AVle c (f c)) :
    HR w B S γ ρ (boxes.map (List.map f)) rows := by
  refine ⟨by simp [h.nb], h.nr, fun k cs g h1 h2 => ?_, h.row, h.inj, h.sep, h.rinj⟩
  rw [List.getElem?_map] at h1
  obtain ⟨cs0, hcs, rfl⟩ := Option.map_eq_some_iff.1 h1
  obtain ⟨e1, e2, us, ty, e3, e4, e5⟩ := h.box k cs0 g hcs h2
  refine ⟨e1, e2, us, ty, e3, by simpa using e4, fun j c hj => ?_⟩
  rw [List.getElem?_map] at hj
  obtain ⟨c0, hc0, rfl⟩ := Option.map_eq_some_iff.1 hj
  obtain ⟨u, f1, f2, f3⟩ := e5 j c0 hc0
  exact ⟨u, f1, f2, hf c0 _ _ _ _ _ _ f3⟩
def nilF (sz : Nat) : AV → AV
  | .lit (.slice none 0 0) => .ro sz []
  | v => v
theorem nilF_le (sz : Nat) (v : AV) : AVle v (nilF sz v) := by
  unfold nilF
  split
  · exact AVle.nil sz
  · exact AVle.refl _
/-- an empty slice in a box is nil or not -/
theorem Wk.nilBoxes (sz : Nat) (s : ASt) : Wk s ⟨s.env, s.boxes.map (List.map (nilF sz)), s.rows⟩ := fun w0 S0 n a w ⟨S, γ, ρ, hr⟩ =>
  ⟨S, γ, ρ, hr.below, hr.s0, hr.sw, HR.leBoxes hr.heap _ (nilF_le sz), hr.size, hr.defs, hr.env⟩
theorem msgB_shape {cs : List AV} {d : Nat} (h : Shp Try.prog (d + 4) 53 cs) : ∃ m : Msg, cs = m.cells ∧ m.rcd.B := by
  obtain ⟨a, r, rfl, ha, g1⟩ := shp_st (ts := [5, 46, 2, 51]) (by kernel_rfl) h
  obtain ⟨b, r, rfl, hb, g2⟩ := g1
  obtain ⟨c, r, rfl, hc, g3⟩ := g2
  obtain ⟨e, r, rfl, he, g4⟩ := g3
  obtain rfl : r = [] := g4
  obtain ⟨xa, rfl⟩ := sh_u8 ha
  obtain ⟨b1, r, rfl, hb1, g5⟩ := shp_st (ts := [2, 2, 2]) (by kernel_rfl) hb
  obtain ⟨b2, r, rfl, hb2, g6⟩ := g5
  obtain ⟨b3, r, rfl, hb3, g7⟩ := g6
  obtain rfl : r = [] := g7
  obtain ⟨x, rfl, w1⟩ := shp_in (k := .i64) (by kernel_rfl) hb1
  obtain ⟨y, rfl, w2⟩ := shp_in (k := .i64) (by kernel_rfl) hb2
  obtain ⟨z, rfl, w3⟩ := shp_in (k := .i64) (by kernel_rfl) hb3
  obtain ⟨xt, rfl⟩ := sh_i64 hc
  obtain ⟨⟨r1, r2, r3, r4, r5⟩, rfl⟩ := sh_row he
  exact ⟨⟨xa, x, y, z, xt, r1, r2, r3, r4, r5⟩, rfl, wf_i64 w1, wf_i64 w2, wf_i64 w3⟩
theorem msgsB_shape {a : AV} (h : ShpA Try.prog 8 28 a) : ∃ l : List Msg, a = msgsV l ∧ l.length ≤ maxLen ∧ ∀ m ∈ l, m.rcd.B := by
  obtain ⟨xs, e, hm, hx⟩ := shp_sl (q := (53, 10)) (by kernel_rfl) (shpA_one (by kernel_rfl) h)
  obtain ⟨l, rfl, hp⟩ := list_ofB (f := Msg.cells) fun x hx' => msgB_shape (hx x hx')
  exact ⟨l, by simpa [msgsV] using e, by simpa using hm, hp⟩

def dd3 : Nat → List (List Nat)
  | 0 => [[], [0], [4]]
  | 1 => [[], [], [15]]
  | 2 => [[], [], [16], [17], [], [19], [20], [18, 21], [22], [], [24], [25], [23, 26], [27], [], [29], [28, 30]]
  | 3 => [[1, 2, 31], [5], [32]]
  | 4 => [[31], [], [34], [], [33], [], [35], [36]]
  | 5 => [[], [7], [37]]
  | 6 => [[1, 2, 5, 6, 38], []]
  | 7 => [[38], [], []]
  | 8 => [[], []]
  | 9 => [[], [], [], [40], [39, 41]]
  | 10 => [[61], [10], [43], [44]]
  | 12 => [[], [12], [55]]
  | 13 => [[11, 56], [], [], [57, 58], [59], [60]]
  | 14 => [[1, 2, 5, 6, 8, 9, 10, 61], []]
  | 15 => [[56], [], [62], [63], [64]]
  | 16 => [[1, 2, 5, 6, 8, 9, 10, 11, 65], []]
  | 17 => [[65], [], [], [66]]
  | 18 => [[], [], [67], [68], [69]]
  | 19 => [[70], [], [71], [72], [73], [74], [75]]
  | 20 => [[70], [], [], [76, 77], [78], [79], [80]]
  | 22 => [[1, 2, 5, 6, 8, 9, 10, 11, 13, 113], []]
  | 23 => [[113], [8], [], [], [115, 116], [117], [118], [114, 119], [120]]
  | 24 => [[], [], [121], [122]]
  | 25 => [[9, 123], [13], [124], [125]]
  | 26 => [[81], [], [], [126, 127], [128], [129], [130], [], [131, 132], [133]]
  | 28 => [[1, 2, 5, 6, 8, 9, 10, 11, 177], []]
  | 29 => [[13, 123, 177], [], [178]]
  | 30 => [[], [11], [179]]
  | 31 => [[1, 2, 9, 10, 42], [5], [180], [], [182], [183], [184], [181, 185], [186], [6], [188], [189], [190], [8], [191, 192], [187, 193], [194]]
  | _ => []
def fo3 : Nat → List Nat
  | 11 => [1, 2, 5, 6, 8, 9, 10, 11, 12]
  | 21 => [1, 2, 5, 6, 8, 9, 10, 11, 13, 113]
  | 27 => [1, 2, 5, 6, 8, 9, 10, 11, 177]
  | _ => []
def loopOf : Code → Option Code
  | .seq x y => match loopOf x with
    | some c => some c
    | none => loopOf y
  | .block _ c => loopOf c
  | .cond _ x y => match loopOf x with
    | some c => some c
    | none => loopOf y
  | .loop c => some c
  | _ => none
/-- a round of the loop -/
noncomputable def mBody : Code := (Try.f3.body.bind loopOf).getD .skip
/-- the state between the rounds -/
def mInv (q : Qry) (l : List Msg) (k : Nat) (mk : Int) : ASt := ⟨[(1, .ro 10 (l.map Msg.cells)), (2, .bp 0 0), (5, .lit (.bool true)), (6, .bp 1 0), (8, .lit (.int .i64 mk)), (9, .lit (.int .i64 mk)), (10, .lit (.int .i64 (k : Int)))],
      [q.cells, [.lit (.int .u8 2), .lit (.int .i64 0), .lit (.int .i64 0), AV.ro 11 [], .ro 1 [[.lit (.int .i64 mk)]], .ro 11 [], .ro 5 [], .ro 5 [], .ro 3 []]], []⟩
def mRound (q : Qry) (l : List Msg) (k : Nat) (mk mk' : Int) : Prop := AWp Try.prog 195 mBody (fun e s => e = .normal ∧ Wk s (mInv q l (k + 1) mk')) (mInv q l k mk)
def mTake (q : Qry) (mk : Int) (m : Msg) (o : List Snd) (mk' : Int) : Prop := ACall Try.prog 8 [.agg q.cells, .agg (Tsk.mk 2 0 0 [] [mk] [] [] [] []).cells, .agg m.cells] (.tup [.agg (filtT 0 mk' o).cells, .lit (.int .i64 0)])
end Go.Proofs.Ytfmnjgjfkfppkaa
