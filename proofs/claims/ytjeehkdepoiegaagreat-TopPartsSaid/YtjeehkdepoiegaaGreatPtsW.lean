/-
  The law TopParts.
-/
import Derived.Test.YtjeehkdepoiegaaGreatFilE
import Derived.Test.YtjeehkdepoiegaaGreatChnW
import Derived.Test.YtjeehkdepoiegaaGreatPtsA
import Derived.Test.YtjeehkdepoiegaaGreatQueS
import Derived.Test.YtjeehkdepoiegaaGreatShp
namespace Go.Proofs.YtjeehkdepoiegaaGreat
open Go.AL Go.RowKit
set_option linter.unusedSimpArgs false
set_option linter.unusedVariables false
set_option maxRecDepth 10000
set_option maxHeartbeats 8000000
def dd3 : Nat → List (List Nat)
  | 0 => [[], [0], [6]]
  | 1 => [[], [], [24]]
  | 2 => [[], [], [25], [26], [27], [28], [], [30], [31], [32], [29, 33], [34], [], [36], [37], [38], [35, 39], [40], [], [42], [43], [41, 44], [45], [], [47], [48], [46, 49], [50], [], [52], [51, 53], [54], [], [56], [55, 57], [58], [], [60], [59, 61]]
  | 3 => [[1, 2, 3, 62], [7], [63]]
  | 4 => [[62], [], [65], [66], [], [64], [], [67], [68]]
  | 5 => [[], [9], [69]]
  | 6 => [[1, 2, 3, 8, 70], [7], [71]]
  | 7 => [[70], [], [73], [74], [], [72], [75], [76]]
  | 8 => [[], [], [78], [], [77], [], [79], [80]]
  | 9 => [[], [11], [81], [82], [13], [84], [83, 85], [86], [], [88], [], [90], [89, 91], [87, 92]]
  | 10 => [[1, 2, 3, 7, 8, 10, 12, 93], []]
  | 11 => [[93], []]
  | 12 => [[], []]
  | 13 => [[], [], [], [95], [94, 96]]
  | 14 => [[], [15], [98], [99]]
  | 15 => [[97], [], [101], [102], [], [100], [], [103], [104]]
  | 16 => [[], [16], [], [107], [106, 108], [109], [], [], [105], [], [110], [111], [112]]
  | 17 => [[], [17], [113], [114], [20], [116], [115, 117], [118], [], [120], [121], [119, 122]]
  | 18 => [[1, 2, 3, 7, 8, 10, 12, 14, 15, 18, 19, 123], []]
  | 19 => [[123], [19], [125], [126], [127], [128], [], [], [124], [], [], [129], [130], [131]]
  | 20 => [[], [23], [132], [133], [22], [135], [136], [137], [134, 138]]
  | 21 => [[1, 2, 3, 7, 8, 10, 12, 14, 15, 18, 21, 139], []]
  | 22 => [[139], [14], [21], [141], [140, 142], [143]]
  | 23 => [[], [18], [144]]
  | 24 => [[8, 12, 15, 97], [7], [145], [], [10], [147, 148], [146, 149], [150], [3], [1], [14], [2], [152, 153, 154, 155], [151, 156], [157]]
  | _ => []
theorem parts_law (q : Qry) (l : List Ev) (p : Int) (h1 : q.arg.length ≤ maxLen) (h2 : q.wh.length ≤ maxLen) (h3 : q.src.length ≤ maxLen) (hb : ∀ x ∈ q.src, -9223372036854775808 ≤ x ∧ x ≤ 9223372036854775807) (n1 : nodesB q.arg) (n2 : nodesB q.wh) (hl : l.length ≤ maxLen) (hB : ∀ e ∈ l, (evRcd e).B) :
    ACall Tryz.prog 3 [.agg q.cells, evsV l, .lit (.int .i64 p)] (.lit (.bool true)) := by
  unfold maxLen at h1 h2 h3 hl
  by_cases hall : q.arg.length ≤ 100 ∧ q.wh.length ≤ 100 ∧ q.src.length ≤ 20
  · obtain ⟨g1, g2, g3⟩ := hall
    have hq : q.fit := ⟨by omega, by omega, by omega, hb, n1, n2⟩
    have hAc := accepted29_c q hq
    by_cases hv : accE q = 0 ∧ l.length ≤ 40 ∧ 1 ≤ p ∧ p ≤ 3
    · obtain ⟨ha, hv2, hv3, hv4⟩ := hv
      rw [decide_eq_true ha] at hAc
      have hNw := new_t 0 l (by omega)
      by_cases he : newErr 0 l = 0
      · obtain ⟨-, -, a3, a4, a5⟩ := newErr_0 he
        rw [he, a5] at hNw
        have hokT : ∀ m : List Ev, m.length ≤ 60 → (srcT 0 m).ok := fun m hm => ⟨by simp [srcT], by simp [srcT], by simp [srcT], by show m.length ≤ maxLen; unfold maxLen; omega, by simp [srcT], by simp [srcT]⟩
        have hSn := sent_c (srcT 0 l) (hokT l a3)
        rw [src0_ask a3 a4, show sentR (srcT 0 l) = l.map told by unfold sentR; rw [if_pos (src0_ask a3 a4)]; rfl] at hSn
        have hFl := filtered_c q l p hq ha a4 hv2 hB (by omega)
        have hSl := sameList_c (l.map told) (l.map told) (by simp [maxLen]; omega) (by simp [maxLen]; omega)
        rw [decide_eq_true rfl] at hSl
        have hS0 := fun (m : List Ev) (hm : m.length ≤ 60) => step_c (srcT 0 m) (hokT m hm)
        have hD0 := fun (e : Ev) (m : List Ev) (hm : m.length ≤ 60) => send_c ⟨1, 0, 0, [⟨0, told e⟩], [], [], m, [], []⟩ [⟨1, []⟩] ⟨by simp [maxLen], by simp, by simp, by show m.length ≤ maxLen; unfold maxLen; omega, by simp, by simp⟩ (by simp [maxLen])
        have hT0 := fun (e : Ev) (h : okE e = true) => takeCh_1 (told e) (valid_ev h)
        clear he a5 hokT h1 h2 h3 hl hb n1 n2 hq ha hB
        obtain ⟨ag, ar, sr, jn, wh, ⟨kd, sz, ev⟩, bk, lt⟩ := q
        unfold srcT Tsk.cells sndsV mksV entsV evsV rowsV rcdsV at hNw hSn
        unfold Qry.cells nodesV intsV evsV msgsV at *
        simp only [List.map_nil] at *
        refine acall_of (n := 158) (rs := [.tmp 6]) Tryz.func3 rfl (by kernel_rfl) rfl rfl rfl ?_; simp only [argsE, Nat.reduceAdd]
        repeat (any_goals (first | (refine aops_cons (fun K' h' => ?_); simp only [go_sem, Nat.reduceLT, Nat.reduceLeDiff, Nat.reduceEqDiff, reduceIte, Nat.reduceAdd, Nat.reduceMul, Nat.reduceSub, Int.reduceLT, Int.reduceLE, Int.reduceToNat, Int.reduceNeg, reduceCtorEq, hgs, aopG, bne_self_eq_false, Bool.not_false, beq_self_eq_true, List.length_map]; (try ((first | refine ⟨_, alive30_c, ?_⟩ | refine ⟨_, fun _ => hAc, ?_⟩ | refine ⟨_, hNw, ?_⟩ | refine ⟨_, hSn, ?_⟩ | refine ⟨_, newCh_1, ?_⟩); (try simp only [go_sem, Nat.reduceLT, Nat.reduceLeDiff, Nat.reduceEqDiff, reduceIte, Nat.reduceAdd, Nat.reduceMul, Nat.reduceSub, Int.reduceLT, Int.reduceLE, Int.reduceToNat, Int.reduceNeg, reduceCtorEq, hgs, aopG, bne_self_eq_false, Bool.not_false, beq_self_eq_true, List.length_map]))); (try simp (disch := omega) only [wrap_id, getD_map_in, Int.toNat_natCast, aopG, bne_self_eq_false, Bool.not_false, beq_self_eq_true, List.length_map]); (repeat (refine And.intro (by (omega)) ?_)); refine h' _ ?_; clear h' K') | (refine aops_nil (hK _ ?_); clear hK K hgs gs; try simp only [aThen, aBlock]) | ((refine AWp.sreg (id := 2) dd3 rfl (fun gs K hgs hK => ?_)); replace hgs : gs 4 = some 29 ∧ gs 10 = some 35 ∧ gs 16 = some 41 ∧ gs 21 = some 46 ∧ gs 26 = some 51 ∧ gs 30 = some 55 ∧ gs 34 = some 59 := ⟨hgs 4, hgs 10, hgs 16, hgs 21, hgs 26, hgs 30, hgs 34⟩) | ((refine AWp.sreg (id := 9) dd3 rfl (fun gs K hgs hK => ?_)); replace hgs : gs 2 = some 83 ∧ gs 6 = some 87 := ⟨hgs 2, hgs 6⟩) | (refine AWp.sreg  dd3 rfl (fun gs K hgs hK => ?_); replace hgs : Nat.succ 0 = 1 := rfl) | refine AWp.seq ?_ | refine AWp.block ?_ | (refine AWp.skip ?_; try simp only [aThen, aBlock]) | (refine AWp.cond rfl (fun h => ?_) (fun h => ?_) <;> (try simp only [decide_eq_true_eq, decide_eq_false_iff_not, beq_iff_eq, bne_iff_ne, ne_eq, Bool.not_eq_true', Bool.not_eq_false', beq_eq_false_iff_ne, Bool.true_eq_false, Bool.false_eq_true, Int.not_le, Int.not_lt, Bool.and_eq_true, Bool.and_eq_false_iff, Bool.or_eq_true, Bool.or_eq_false_iff, bne_eq_false_iff_eq, reduceCtorEq] at h) <;> (try first | (exfalso; omega)))))
        refine AWp.weaken (Wk.nilOwn 14 62 10 rfl (by decide)) ?_
        refine AWp.loopN l.length (fun _ => True) (fun k => ⟨[(1, .ro 5 (l.map Ev.cells)), (2, .lit (.int .i64 p)), (3, .bp 0 0), (7, .lit (.bool true)), (8, .bp 1 0), (10, .ro 10 ((l.map told).map Msg.cells)), (12, .bp 2 0), (14, .own 0 10 0 ((l.take k).map told).length), (15, .lit (.int .i64 (k : Int)))],
          [[.lit (.int .u8 ag), .ro 5 (ar.map Node.cells), .ro 1 (sr.map fun x : Int => [.lit (.int .i64 x)]), .lit (.bool jn), .ro 5 (wh.map Node.cells), .lit (.int .u8 kd), .lit (.int .i64 sz), .lit (.int .i64 ev), .lit (.bool bk), .lit (.int .u8 lt)], [.lit (.int .u8 1), .lit (.int .i64 0), .lit (.int .i64 0), .ro 11 [], .ro 1 [], .ro 11 [], .ro 5 ((l.drop k).map Ev.cells), .ro 5 [], .ro 3 []], [.lit (.int .i64 1), .ro 10 []]],
          [some ⟨62, 10, ((l.take k).map told).map Msg.cells⟩]⟩) ?_ ?_
        · refine Wk.ofCut 3 1 ?_ ?_ ?_
          · simp [lowBx, ASt.drop, ASt.nilOwn, AV.lowB, lowE, lowL, Nat.blt, Nat.ble]
          · simp [ASt.drop, ASt.nilOwn]
          · simp [ASt.nilOwn, eput, subE, eget, ASt.drop, dropE, keepR, lowE, AV.lowB, lowL, Nat.blt, Nat.ble]
        · intro k hk _
          by_cases hkk : k < l.length
          · obtain ⟨y, hy⟩ : ∃ y, l.getD k default = y := ⟨_, rfl⟩
            have hd : l.drop k = y :: l.drop (k + 1) := by
              rw [← hy, List.drop_eq_getElem_cons hkk, List.getD_eq_getElem?_getD, List.getElem?_eq_getElem hkk]; rfl
            have hmem : ∀ x ∈ y :: l.drop (k + 1), okE x = true := fun x hx => a4 x (List.mem_of_mem_drop (by rw [hd]; exact hx))
            have hlen : (y :: l.drop (k + 1)).length ≤ 60 := by rw [← hd]; simp; omega
            obtain ⟨s1, s2⟩ := src0_step hlen hmem
            obtain ⟨d1, d2, d3⟩ := src0_send hlen hmem
            have hSt := hS0 (y :: l.drop (k + 1)) hlen
            rw [s1, s2] at hSt
            have hSd := hD0 y (l.drop (k + 1)) (by simp at hlen ⊢; omega)
            rw [d1, d2, d3] at hSd
            have hTk := hT0 y (hmem y (by simp))
            have htk := take_snocE hkk hy
            rw [htk, hd]
            have hcl : ((l.take k).map told).length ≤ 60 := by simp; omega
            rw [List.map_append, List.map_cons, List.map_nil]
            generalize (l.take k).map told = cm at *
            generalize l.drop (k + 1) = es at *
            clear hS0 hD0 hT0 s1 s2 d1 d2 d3 hmem hd htk hSn hNw hFl hSl
            unfold srcT Tsk.cells sndsV mksV entsV evsV rowsV rcdsV at hSt hSd
            unfold quesV Que.cells at hSd
            simp only [List.map_nil, List.map_cons, Snd.cells] at hSt hSd ⊢
            generalize told y = x at *
            obtain ⟨mkd, mkk, mrt, mvv, mtt, p1, p2, p3, p4, p5⟩ := x
            obtain ⟨y1, y2, y3, y4, y5⟩ := y
            simp only [Msg.cells, Ev.cells] at hSt hSd hTk ⊢
            repeat (any_goals (first | (refine aops_cons (fun K' h' => ?_); simp only [go_sem, Nat.reduceLT, Nat.reduceLeDiff, Nat.reduceEqDiff, reduceIte, Nat.reduceAdd, Nat.reduceMul, Nat.reduceSub, Int.reduceLT, Int.reduceLE, Int.reduceToNat, Int.reduceNeg, reduceCtorEq, hgs, aopG, bne_self_eq_false, Bool.not_false, beq_self_eq_true, List.length_map, hy, Ev.cells]; (try ((first | refine ⟨_, hSt, ?_⟩ | refine ⟨_, hTk, ?_⟩); (try simp only [go_sem, Nat.reduceLT, Nat.reduceLeDiff, Nat.reduceEqDiff, reduceIte, Nat.reduceAdd, Nat.reduceMul, Nat.reduceSub, Int.reduceLT, Int.reduceLE, Int.reduceToNat, Int.reduceNeg, reduceCtorEq, hgs, aopG, bne_self_eq_false, Bool.not_false, beq_self_eq_true, List.length_map, hy, Ev.cells]))); (try simp (disch := omega) only [wrap_id, getD_map_in, Int.toNat_natCast, aopG, bne_self_eq_false, Bool.not_false, beq_self_eq_true, List.length_map, hy, Ev.cells]); (repeat (refine And.intro (by (omega)) ?_)); refine h' _ ?_; clear h' K') | (refine aops_nil (hK _ ?_); clear hK K hgs gs; try simp only [aThen, aBlock]) | (refine aops_consF [0] (fun K' h' => ?_); simp only [go_sem, Nat.reduceLT, Nat.reduceLeDiff, Nat.reduceEqDiff, reduceIte, Nat.reduceAdd, Nat.reduceMul, Nat.reduceSub, Int.reduceLT, Int.reduceLE, Int.reduceToNat, Int.reduceNeg, reduceCtorEq, hgs, aopG, bne_self_eq_false, Bool.not_false, beq_self_eq_true, List.length_map, hy, Ev.cells]; refine ⟨_, hSd, ?_⟩; (try simp only [go_sem, Nat.reduceLT, Nat.reduceLeDiff, Nat.reduceEqDiff, reduceIte, Nat.reduceAdd, Nat.reduceMul, Nat.reduceSub, Int.reduceLT, Int.reduceLE, Int.reduceToNat, Int.reduceNeg, reduceCtorEq, hgs, aopG, bne_self_eq_false, Bool.not_false, beq_self_eq_true, List.length_map, hy, Ev.cells]); (repeat (refine And.intro (by (omega)) ?_)); refine h' _ ?_; clear h' K') | ((refine AWp.sreg (id := 17) dd3 rfl (fun gs K hgs hK => ?_)); replace hgs : gs 2 = some 115 ∧ gs 6 = some 119 := ⟨hgs 2, hgs 6⟩) | ((refine AWp.sreg (id := 20) dd3 rfl (fun gs K hgs hK => ?_)); replace hgs : gs 2 = some 134 := hgs 2) | (refine AWp.sreg  dd3 rfl (fun gs K hgs hK => ?_); replace hgs : Nat.succ 0 = 1 := rfl) | refine AWp.seq ?_ | refine AWp.block ?_ | (refine AWp.skip ?_; try simp only [aThen, aBlock]) | (refine AWp.reg  dd3 rfl (fun gs K hgs hK => ?_); replace hgs : Nat.succ 0 = 1 := rfl) | (refine AWp.cond rfl (fun h => ?_) (fun h => ?_) <;> (try simp only [decide_eq_true_eq, decide_eq_false_iff_not, beq_iff_eq, bne_iff_ne, ne_eq, Bool.not_eq_true', Bool.not_eq_false', beq_eq_false_iff_ne, Bool.true_eq_false, Bool.false_eq_true, Int.not_le, Int.not_lt, Bool.and_eq_true, Bool.and_eq_false_iff, Bool.or_eq_true, Bool.or_eq_false_iff, bne_eq_false_iff_eq, reduceCtorEq] at h) <;> (try first | contradiction | (exfalso; omega)))))
            all_goals first
              | (exfalso; omega)
              | skip
            refine ⟨by omega, trivial, Wk.ofCut 3 1 ?_ ?_ ?_⟩
            · simp [lowBx, ASt.drop, AV.lowB, lowE, lowL, Nat.blt, Nat.ble]
            · simp [ASt.drop, List.take_of_length_le, Msg.cells]
            · simp only [List.length_append, List.length_cons, List.length_nil, Nat.zero_add]
              first
              | (simp [subE, eget, ASt.drop, dropE, keepR, lowE, AV.lowB, lowL, Nat.blt, Nat.ble]; done)
              | (simp [subE, eget, ASt.drop, dropE, keepR, lowE, AV.lowB, lowL, Nat.blt, Nat.ble]; omega)
          · obtain rfl : k = l.length := by omega
            clear hS0 hD0 hT0
            rw [List.take_length, List.drop_length]
            simp only [List.map_nil]
            have htl : List.take (l.map told).length ((l.map told).map Msg.cells) = (l.map told).map Msg.cells := List.take_of_length_le (by simp)
            have hml : (l.map told).length ≤ 60 := by simp; omega
            generalize l.map told = cm at *
            repeat (any_goals (first | (refine aops_cons (fun K' h' => ?_); simp only [go_sem, Nat.reduceLT, Nat.reduceLeDiff, Nat.reduceEqDiff, reduceIte, Nat.reduceAdd, Nat.reduceMul, Nat.reduceSub, Int.reduceLT, Int.reduceLE, Int.reduceToNat, Int.reduceNeg, reduceCtorEq, hgs, aopG, bne_self_eq_false, Bool.not_false, beq_self_eq_true, List.length_map, htl]; (try ((first | refine ⟨_, hSl, ?_⟩ | refine ⟨_, hFl, ?_⟩); (try simp only [go_sem, Nat.reduceLT, Nat.reduceLeDiff, Nat.reduceEqDiff, reduceIte, Nat.reduceAdd, Nat.reduceMul, Nat.reduceSub, Int.reduceLT, Int.reduceLE, Int.reduceToNat, Int.reduceNeg, reduceCtorEq, hgs, aopG, bne_self_eq_false, Bool.not_false, beq_self_eq_true, List.length_map, htl]))); (try simp (disch := omega) only [wrap_id, getD_map_in, Int.toNat_natCast, aopG, bne_self_eq_false, Bool.not_false, beq_self_eq_true, List.length_map, htl]); (repeat (refine And.intro (by (omega)) ?_)); refine h' _ ?_; clear h' K') | (refine aops_nil (hK _ ?_); clear hK K hgs gs; try simp only [aThen, aBlock]) | ((refine AWp.sreg (id := 24) dd3 rfl (fun gs K hgs hK => ?_)); replace hgs : gs 1 = some 146 ∧ gs 6 = some 151 := ⟨hgs 1, hgs 6⟩) | (refine AWp.sreg  dd3 rfl (fun gs K hgs hK => ?_); replace hgs : Nat.succ 0 = 1 := rfl) | refine AWp.seq ?_ | (refine AWp.ret ?_; try simp only [aThen, aBlock]) | (refine AWp.exit ?_; try simp only [aThen, aBlock, Nat.reduceEqDiff, reduceIte]) | (refine AWp.cond rfl (fun h => ?_) (fun h => ?_) <;> (try simp only [decide_eq_true_eq, decide_eq_false_iff_not, beq_iff_eq, bne_iff_ne, ne_eq, Bool.not_eq_true', Bool.not_eq_false', beq_eq_false_iff_ne, Bool.true_eq_false, Bool.false_eq_true, Int.not_le, Int.not_lt, Bool.and_eq_true, Bool.and_eq_false_iff, Bool.or_eq_true, Bool.or_eq_false_iff, bne_eq_false_iff_eq, reduceCtorEq] at h) <;> (try first | (exfalso; omega)))))
            all_goals first
              | (exfalso; omega)
              | skip
            all_goals simp only [Out, outA, outL, resA, go_sem, Nat.reduceLT, Nat.reduceLeDiff, Nat.reduceEqDiff, reduceIte, Nat.reduceAdd, Nat.reduceMul, Nat.reduceSub, Int.reduceLT, Int.reduceLE, Int.reduceToNat, Int.reduceNeg, reduceCtorEq]
            all_goals exact AVle.of_eq (by simp)
      · have hT : newTk 0 l = zeroT := by unfold newTk; rw [if_neg he]
        rw [hT] at hNw
        clear h1 h2 h3 hl hb n1 n2 hq ha hB hT
        generalize newErr 0 l = en at *
        obtain ⟨ag, ar, sr, jn, wh, ⟨kd, sz, ev⟩, bk, lt⟩ := q
        unfold zeroT Tsk.cells sndsV mksV entsV evsV rowsV rcdsV at hNw
        unfold Qry.cells nodesV intsV evsV at *
        simp only [List.map_nil] at *
        refine acall_of (n := 158) (rs := [.tmp 6]) Tryz.func3 rfl (by kernel_rfl) rfl rfl rfl ?_; simp only [argsE, Nat.reduceAdd]
        repeat (any_goals (first | (refine aops_cons (fun K' h' => ?_); simp only [go_sem, Nat.reduceLT, Nat.reduceLeDiff, Nat.reduceEqDiff, reduceIte, Nat.reduceAdd, Nat.reduceMul, Nat.reduceSub, Int.reduceLT, Int.reduceLE, Int.reduceToNat, Int.reduceNeg, reduceCtorEq, hgs, aopG, bne_self_eq_false, Bool.not_false, beq_self_eq_true, List.length_map]; (try ((first | refine ⟨_, alive30_c, ?_⟩ | refine ⟨_, fun _ => hAc, ?_⟩ | refine ⟨_, hNw, ?_⟩); (try simp only [go_sem, Nat.reduceLT, Nat.reduceLeDiff, Nat.reduceEqDiff, reduceIte, Nat.reduceAdd, Nat.reduceMul, Nat.reduceSub, Int.reduceLT, Int.reduceLE, Int.reduceToNat, Int.reduceNeg, reduceCtorEq, hgs, aopG, bne_self_eq_false, Bool.not_false, beq_self_eq_true, List.length_map]))); (try simp (disch := omega) only [wrap_id, getD_map_in, Int.toNat_natCast, aopG, bne_self_eq_false, Bool.not_false, beq_self_eq_true, List.length_map]); (repeat (refine And.intro (by (omega)) ?_)); refine h' _ ?_; clear h' K') | (refine aops_nil (hK _ ?_); clear hK K hgs gs; try simp only [aThen, aBlock]) | ((refine AWp.sreg (id := 2) dd3 rfl (fun gs K hgs hK => ?_)); replace hgs : gs 4 = some 29 ∧ gs 10 = some 35 ∧ gs 16 = some 41 ∧ gs 21 = some 46 ∧ gs 26 = some 51 ∧ gs 30 = some 55 ∧ gs 34 = some 59 := ⟨hgs 4, hgs 10, hgs 16, hgs 21, hgs 26, hgs 30, hgs 34⟩) | (refine AWp.sreg  dd3 rfl (fun gs K hgs hK => ?_); replace hgs : Nat.succ 0 = 1 := rfl) | refine AWp.seq ?_ | (refine AWp.ret ?_; try simp only [aThen, aBlock]) | (refine AWp.skip ?_; try simp only [aThen, aBlock]) | (refine AWp.cond rfl (fun h => ?_) (fun h => ?_) <;> (try simp only [decide_eq_true_eq, decide_eq_false_iff_not, beq_iff_eq, bne_iff_ne, ne_eq, Bool.not_eq_true', Bool.not_eq_false', beq_eq_false_iff_ne, Bool.true_eq_false, Bool.false_eq_true, Int.not_le, Int.not_lt, Bool.and_eq_true, Bool.and_eq_false_iff, Bool.or_eq_true, Bool.or_eq_false_iff, bne_eq_false_iff_eq, reduceCtorEq] at h) <;> (try first | contradiction | (exfalso; omega)))))
        all_goals first
          | (exfalso; omega)
          | skip
        all_goals simp only [Out, outA, outL, resA, go_sem, Nat.reduceLT, Nat.reduceLeDiff, Nat.reduceEqDiff, reduceIte, Nat.reduceAdd, Nat.reduceMul, Nat.reduceSub, Int.reduceLT, Int.reduceLE, Int.reduceToNat, Int.reduceNeg, reduceCtorEq]
        all_goals exact AVle.refl _
    · generalize hac : decide (accE q = 0) = ac at *
      clear h1 h2 h3 hl hb n1 n2 hB hq
      have hv : ¬ (ac = true ∧ l.length ≤ 40 ∧ 1 ≤ p ∧ p ≤ 3) := fun ⟨a, b⟩ => hv ⟨of_decide_eq_true (hac.trans a), b⟩
      clear hac
      obtain ⟨ag, ar, sr, jn, wh, ⟨kd, sz, ev⟩, bk, lt⟩ := q
      unfold Qry.cells nodesV intsV evsV at *
      simp only at *
      cases ac
      all_goals
        refine acall_of (n := 158) (rs := [.tmp 6]) Tryz.func3 rfl (by kernel_rfl) rfl rfl rfl ?_; simp only [argsE, Nat.reduceAdd]
        repeat (any_goals (first | (refine aops_cons (fun K' h' => ?_); simp only [go_sem, Nat.reduceLT, Nat.reduceLeDiff, Nat.reduceEqDiff, reduceIte, Nat.reduceAdd, Nat.reduceMul, Nat.reduceSub, Int.reduceLT, Int.reduceLE, Int.reduceToNat, Int.reduceNeg, reduceCtorEq, hgs, aopG, bne_self_eq_false, Bool.not_false, beq_self_eq_true, List.length_map]; (try ((first | refine ⟨_, alive30_c, ?_⟩ | refine ⟨_, fun _ => hAc, ?_⟩); (try simp only [go_sem, Nat.reduceLT, Nat.reduceLeDiff, Nat.reduceEqDiff, reduceIte, Nat.reduceAdd, Nat.reduceMul, Nat.reduceSub, Int.reduceLT, Int.reduceLE, Int.reduceToNat, Int.reduceNeg, reduceCtorEq, hgs, aopG, bne_self_eq_false, Bool.not_false, beq_self_eq_true, List.length_map]))); (try simp (disch := omega) only [wrap_id, getD_map_in, Int.toNat_natCast, aopG, bne_self_eq_false, Bool.not_false, beq_self_eq_true, List.length_map]); (repeat (refine And.intro (by (omega)) ?_)); refine h' _ ?_; clear h' K') | (refine aops_nil (hK _ ?_); clear hK K hgs gs; try simp only [aThen, aBlock]) | ((refine AWp.sreg (id := 2) dd3 rfl (fun gs K hgs hK => ?_)); replace hgs : gs 4 = some 29 ∧ gs 10 = some 35 ∧ gs 16 = some 41 ∧ gs 21 = some 46 ∧ gs 26 = some 51 ∧ gs 30 = some 55 ∧ gs 34 = some 59 := ⟨hgs 4, hgs 10, hgs 16, hgs 21, hgs 26, hgs 30, hgs 34⟩) | (refine AWp.sreg  dd3 rfl (fun gs K hgs hK => ?_); replace hgs : Nat.succ 0 = 1 := rfl) | refine AWp.seq ?_ | (refine AWp.ret ?_; try simp only [aThen, aBlock]) | (refine AWp.skip ?_; try simp only [aThen, aBlock]) | (refine AWp.cond rfl (fun h => ?_) (fun h => ?_) <;> (try simp only [decide_eq_true_eq, decide_eq_false_iff_not, beq_iff_eq, bne_iff_ne, ne_eq, Bool.not_eq_true', Bool.not_eq_false', beq_eq_false_iff_ne, Bool.true_eq_false, Bool.false_eq_true, Int.not_le, Int.not_lt, Bool.and_eq_true, Bool.and_eq_false_iff, Bool.or_eq_true, Bool.or_eq_false_iff, bne_eq_false_iff_eq, reduceCtorEq] at h))))
        all_goals first
          | (exfalso; omega)
          | skip
        all_goals try (exact absurd ⟨rfl, by omega, by omega, by omega⟩ hv)
        all_goals simp only [Out, outA, outL, resA, go_sem, Nat.reduceLT, Nat.reduceLeDiff, Nat.reduceEqDiff, reduceIte, Nat.reduceAdd, Nat.reduceMul, Nat.reduceSub, Int.reduceLT, Int.reduceLE, Int.reduceToNat, Int.reduceNeg, reduceCtorEq]
        all_goals exact AVle.refl _
  · clear h1 h2 h3 hl hb n1 n2 hB
    obtain ⟨ag, ar, sr, jn, wh, ⟨kd, sz, ev⟩, bk, lt⟩ := q
    unfold Qry.cells nodesV intsV evsV at *
    simp only at *
    have hz : (decide (100 < (ar.length : Int)) || decide (100 < (wh.length : Int)) || decide (20 < (sr.length : Int))) = true := by
      simp only [Bool.or_eq_true, decide_eq_true_eq]
      omega
    refine acall_of (n := 158) (rs := [.tmp 6]) Tryz.func3 rfl (by kernel_rfl) rfl rfl rfl ?_; simp only [argsE, Nat.reduceAdd]
    repeat (any_goals (first | (refine aops_cons (fun K' h' => ?_); simp only [go_sem, Nat.reduceLT, Nat.reduceLeDiff, Nat.reduceEqDiff, reduceIte, Nat.reduceAdd, Nat.reduceMul, Nat.reduceSub, Int.reduceLT, Int.reduceLE, Int.reduceToNat, Int.reduceNeg, reduceCtorEq, hgs, aopG, bne_self_eq_false, Bool.not_false, beq_self_eq_true, List.length_map, hz]; (try ((refine ⟨_, alive30_c, ?_⟩); (try simp only [go_sem, Nat.reduceLT, Nat.reduceLeDiff, Nat.reduceEqDiff, reduceIte, Nat.reduceAdd, Nat.reduceMul, Nat.reduceSub, Int.reduceLT, Int.reduceLE, Int.reduceToNat, Int.reduceNeg, reduceCtorEq, hgs, aopG, bne_self_eq_false, Bool.not_false, beq_self_eq_true, List.length_map, hz]))); (try simp (disch := omega) only [wrap_id, getD_map_in, Int.toNat_natCast, aopG, bne_self_eq_false, Bool.not_false, beq_self_eq_true, List.length_map, hz]); (repeat (refine And.intro (by (omega)) ?_)); refine h' _ ?_; clear h' K') | (refine aops_nil (hK _ ?_); clear hK K hgs gs; try simp only [aThen, aBlock]) | ((refine AWp.sreg (id := 2) dd3 rfl (fun gs K hgs hK => ?_)); replace hgs : gs 4 = some 29 ∧ gs 10 = some 35 ∧ gs 16 = some 41 ∧ gs 21 = some 46 ∧ gs 26 = some 51 ∧ gs 30 = some 55 ∧ gs 34 = some 59 := ⟨hgs 4, hgs 10, hgs 16, hgs 21, hgs 26, hgs 30, hgs 34⟩) | (refine AWp.sreg  dd3 rfl (fun gs K hgs hK => ?_); replace hgs : Nat.succ 0 = 1 := rfl) | refine AWp.seq ?_ | (refine AWp.ret ?_; try simp only [aThen, aBlock]) | (refine aops_consG (fun K' h' => ?_); simp only [go_sem, Nat.reduceLT, Nat.reduceLeDiff, Nat.reduceEqDiff, reduceIte, Nat.reduceAdd, Nat.reduceMul, Nat.reduceSub, Int.reduceLT, Int.reduceLE, Int.reduceToNat, Int.reduceNeg, reduceCtorEq, hgs, aopG, bne_self_eq_false, Bool.not_false, beq_self_eq_true, List.length_map, hz]; (try simp (disch := omega) only [wrap_id, getD_map_in, Int.toNat_natCast, aopG, bne_self_eq_false, Bool.not_false, beq_self_eq_true, List.length_map, hz]); (repeat (refine And.intro (by (omega)) ?_)); refine h' _ ?_; clear h' K') | (refine AWp.cond rfl (fun h => ?_) (fun h => ?_) <;> (try simp only [decide_eq_true_eq, decide_eq_false_iff_not, beq_iff_eq, bne_iff_ne, ne_eq, Bool.not_eq_true', Bool.not_eq_false', beq_eq_false_iff_ne, Bool.true_eq_false, Bool.false_eq_true, Int.not_le, Int.not_lt, Bool.and_eq_true, Bool.and_eq_false_iff, Bool.or_eq_true, Bool.or_eq_false_iff, bne_eq_false_iff_eq, reduceCtorEq] at h))))
    all_goals first
      | (exfalso; omega)
      | skip
    all_goals simp only [Out, outA, outL, resA, go_sem, Nat.reduceLT, Nat.reduceLeDiff, Nat.reduceEqDiff, reduceIte, Nat.reduceAdd, Nat.reduceMul, Nat.reduceSub, Int.reduceLT, Int.reduceLE, Int.reduceToNat, Int.reduceNeg, reduceCtorEq]
    all_goals exact AVle.refl _
theorem evB_shape {x : List AV} {d : Nat} (h : Shp Tryz.prog (d + 3) 72 x) : ∃ e : Ev, x = e.cells ∧ (evRcd e).B := by
  obtain ⟨a, r, rfl, ha, h1⟩ := shp_st (ts := [4, 2, 55]) (by kernel_rfl) h
  obtain ⟨b, r, rfl, hb, h2⟩ := h1
  obtain ⟨c, r, rfl, hc, h3⟩ := h2
  obtain rfl : r = [] := h3
  obtain ⟨c1, r, rfl, hc1, h4⟩ := shp_st (ts := [2, 2, 2]) (by kernel_rfl) hc
  obtain ⟨c2, r, rfl, hc2, h5⟩ := h4
  obtain ⟨c3, r, rfl, hc3, h6⟩ := h5
  obtain rfl : r = [] := h6
  obtain ⟨xk, rfl⟩ := shp_bo (by kernel_rfl) ha
  obtain ⟨xn, rfl, w2⟩ := shp_in (k := .i64) (by kernel_rfl) hb
  obtain ⟨xa, rfl, w3⟩ := shp_in (k := .i64) (by kernel_rfl) hc1
  obtain ⟨xb, rfl, w4⟩ := shp_in (k := .i64) (by kernel_rfl) hc2
  obtain ⟨xp, rfl, w5⟩ := shp_in (k := .i64) (by kernel_rfl) hc3
  exact ⟨⟨xk, xn, xa, xb, xp⟩, rfl, wf_i64 w3, wf_i64 w4, wf_i64 w5⟩
theorem evsB_shape {a : AV} (h : ShpA Tryz.prog 8 28 a) : ∃ l : List Ev, a = evsV l ∧ l.length ≤ maxLen ∧ ∀ e ∈ l, (evRcd e).B := by
  obtain ⟨xs, e, hm, hx⟩ := shp_sl (q := (72, 5)) (by kernel_rfl) (shpA_one (by kernel_rfl) h)
  obtain ⟨l, rfl, hp⟩ := list_ofB (f := Ev.cells) (p := fun e : Ev => (evRcd e).B) fun x hx' => evB_shape (hx x hx')
  exact ⟨l, by simpa [evsV] using e, by simpa using hm, hp⟩
theorem parts_all : ∀ xs, ShpAs Tryz.prog 8 Tryz.f3.params.toList xs → ACall Tryz.prog 3 xs (.lit (.bool true)) := by
  intro xs h
  have hp : Tryz.f3.params.toList = [27, 28, 3] := by kernel_rfl
  rw [hp] at h
  obtain ⟨a, r, rfl, ha, h⟩ := h
  obtain ⟨b, r, rfl, hb, h⟩ := h
  obtain ⟨c, r, rfl, hc, h⟩ := h
  obtain rfl : r = [] := h
  obtain ⟨q, rfl, h1, h2, h3, h4, h5, h6⟩ := qryB_shape ha
  obtain ⟨l, rfl, hl, hB⟩ := evsB_shape hb
  obtain ⟨n, e, _⟩ := shp_in (k := .i64) (by kernel_rfl) (shpA_one (by kernel_rfl) hc)
  obtain rfl : c = .lit (.int .i64 n) := by simpa using e
  exact parts_law q l n h1 h2 h3 h4 h5 h6 hl hB
end Go.Proofs.YtjeehkdepoiegaaGreat
