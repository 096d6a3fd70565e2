/-
  The law PartNames.
-/
import Derived.Test.YtbciabkniljjgaaPrtA
namespace Go.Proofs.Ytbciabkniljjgaa
open Go.AL Go.RowKit
set_option linter.unusedSimpArgs false
set_option linter.unusedVariables false
set_option maxRecDepth 10000
set_option maxHeartbeats 8000000

def recM : Msg := ⟨1, -2, 4, 9, 0, 0, 0, 0, 0, 0⟩
def zeroM : Msg := ⟨0, 0, 0, 0, 0, 0, 0, 0, 0, 0⟩
def lateM : Msg := ⟨4, 0, 0, 0, 0, 0, 0, 0, 0, 0⟩
def split3 : Tsk := ⟨3, 3, 0, [], [], [], [], [], []⟩
def full3 : Tsk := ⟨3, 3, 0, [⟨1, recM⟩], [], [], [], [], []⟩
def sink6 : Tsk := ⟨6, 0, 0, [], [], [], [], [], []⟩
theorem goes_at (k n w : Int) (h : (ofX n == 0 && ofP k n == w) = true) : ACall Try.prog 30 [.lit (.int .i64 k), .lit (.int .i64 n), .lit (.int .i64 w)] (.lit (.bool true)) := h ▸ goes_c k n w
theorem take_at (t : Tsk) (m : Msg) (p : Int) (hok : t.ok) (e : Int) (t' : Tsk) (h1 : takeE t m p = e) (h2 : takeT t m p = t') : ACall Try.prog 28 [.agg t.cells, .agg m.cells, .lit (.int .i64 p)] (.tup [.agg t'.cells, .lit (.int .i64 e)]) := h1 ▸ h2 ▸ takeP_c t m p hok
theorem split3_ok : split3.ok := ⟨by simp [split3], by simp [split3], by simp [split3], by simp [split3], by simp [split3], by simp [split3]⟩
theorem full3_ok : full3.ok := ⟨by simp [full3, maxLen], by simp [full3], by simp [full3], by simp [full3], by simp [full3], by simp [full3]⟩
theorem sink6_ok : sink6.ok := ⟨by simp [sink6], by simp [sink6], by simp [sink6], by simp [sink6], by simp [sink6], by simp [sink6]⟩
theorem zeroT_ok : zeroT.ok := ⟨by simp [zeroT], by simp [zeroT], by simp [zeroT], by simp [zeroT], by simp [zeroT], by simp [zeroT]⟩
theorem ofs_at (k n a b : Int) (h1 : ofP k n = a) (h2 : ofX n = b) : ACall Try.prog 22 [.lit (.int .i64 k), .lit (.int .i64 n)] (.tup [.lit (.int .i64 a), .lit (.int .i64 b)]) := h1 ▸ h2 ▸ ofP_c k n
theorem new_at (n : Int) (t : Tsk) (e : Int) (h1 : newT n = t) (h2 : newX n = e) : ACall Try.prog 26 [.lit (.int .i64 n)] (.tup [.agg t.cells, .lit (.int .i64 e)]) := h1 ▸ h2 ▸ newP_c n

def dd8 : Nat → List (List Nat)
  | 0 => [[], [0]]
  | 1 => [[], [], [28], [], [29]]
  | 2 => [[], [], [31], [], [30], [2, 32], [33]]
  | 3 => [[], [], [35], [], [34], [4, 36], [37]]
  | 4 => [[], [], [39], [], [38], [], [6, 40], [41]]
  | 5 => [[], [], [43], [], [42], [], [8, 44], [45]]
  | 6 => [[], [], [47], [], [46], [], [48], [49]]
  | 7 => [[], [], [], [51, 52], [53], [], [50], [], [54], [55]]
  | 8 => [[], [], [], [57, 58], [59], [], [56], [], [14, 60], [61]]
  | 9 => [[], [], [], [63, 64], [65], [], [62], [], [16, 66], [67]]
  | 10 => [[], [], [], [69, 70], [71], [], [68], [], [18, 72], [73]]
  | 11 => [[], [], [75], [], [76, 77], [78], [], [74], [], [20, 79], [80]]
  | 12 => [[], [], [], [82, 83], [84], [], [81], [], [22, 85], [86]]
  | 13 => [[], [], [], [88, 89], [90], [], [87], [], [24, 91], [92]]
  | 14 => [[], [], [], [94, 95], [96], [], [93], [], [26, 97], [98]]
  | 15 => [[], [], [], [99, 100], [101], [], [102, 103], [104], [], [105, 106], [107], [], [108, 109], [110], [], [111, 112], [113], [], [114, 115], [116], [], [117, 118], [119], [3], [121], [120, 122], [123], [5], [125], [124, 126], [127], [7], [129], [128, 130], [131], [9], [133], [132, 134], [135], [11], [137], [136, 138], [139], [10], [141], [], [142, 143], [140, 144], [145], [13], [147], [146, 148], [149], [12], [151], [1], [153], [154], [152, 155], [150, 156], [157], [15], [159], [158, 160], [161], [17], [163], [162, 164], [165], [19], [167], [166, 168], [169], [21], [171], [170, 172], [173], [23], [175], [174, 176], [177], [25], [179], [178, 180], [181], [27], [183], [182, 184], [185]]
  | _ => []
theorem pnames_law : ACall Try.prog 8 [] (.lit (.bool true)) := by
  have hO1 := ofs_at 5 0 0 2 (by decide) (by decide)
  have hO2 := ofs_at 5 4 0 2 (by decide) (by decide)
  have hN1 := new_at 4 zeroT 2 (by decide) (by decide)
  have hN2 := new_at (-1) zeroT 2 (by decide) (by decide)
  have hN3 := new_at 3 split3 0 (by decide) (by decide)
  have hT1 := take_at split3 recM 3 split3_ok 0 full3 (by decide) (by decide)
  have hT2 := (take_at zeroT zeroM 0 zeroT_ok 8 zeroT (by decide) (by decide)).mono (.cons zeroT_le (.refl _)) (AVle.refl _)
  have hT3 := take_at split3 zeroM 0 split3_ok 2 zeroT (by decide) (by decide)
  have hT4 := take_at split3 recM 4 split3_ok 2 zeroT (by decide) (by decide)
  have hT5 := (take_at sink6 recM 3 sink6_ok 2 zeroT (by decide) (by decide)).mono (.cons (splitT_le 6 0) (.refl _)) (AVle.refl _)
  have hT6 := take_at split3 zeroM 3 split3_ok 8 zeroT (by decide) (by decide)
  have hT7 := take_at split3 lateM 3 split3_ok 8 zeroT (by decide) (by decide)
  have hT8 := take_at full3 recM 3 full3_ok 18 zeroT (by decide) (by decide)
  have hG1 := goes_at (-9223372036854775808) 1 0 (by decide)
  have hG2 := goes_at (-9223372036854775808) 2 0 (by decide)
  have hG3 := goes_at (-9223372036854775808) 3 1 (by decide)
  have hG4 := goes_at 9223372036854775807 3 1 (by decide)
  have hG5 := goes_at 9223372036854775807 2 1 (by decide)
  have hG6 := goes_at (-1) 2 1 (by decide)
  have hSs := sameSends_c [⟨1, recM⟩] [⟨1, recM⟩] (by simp [maxLen]) (by simp [maxLen])
  rw [decide_eq_true rfl] at hSs
  simp only [recM, zeroM, lateM, split3, full3, zeroT] at hN1 hN2 hN3 hT1 hT2 hT3 hT4 hT5 hT6 hT7 hT8 hSs
  unfold Tsk.cells sndsV mksV entsV evsV rowsV rcdsV at hN1 hN2 hN3 hT1 hT2 hT3 hT4 hT5 hT6 hT7 hT8
  simp only [List.map_cons, List.map_nil, Snd.cells, Msg.cells] at hN1 hN2 hN3 hT1 hT2 hT3 hT4 hT5 hT6 hT7 hT8 hSs
  refine acall_of (n := 186) (rs := [.tmp 0]) Try.func8 rfl (by kernel_rfl) rfl rfl rfl ?_; simp only [argsE, Nat.reduceAdd]
  repeat (any_goals (first | (refine aops_cons (fun K' h' => ?_); simp only [go_sem, Nat.reduceLT, Nat.reduceLeDiff, Nat.reduceEqDiff, reduceIte, Nat.reduceAdd, Nat.reduceMul, Nat.reduceSub, Int.reduceLT, Int.reduceLE, Int.reduceToNat, Int.reduceNeg, reduceCtorEq, hgs, aopG, beq_self_eq_true, Option.toArray_none, Option.toArray_some, List.toList_toArray]; (try simp (disch := omega) only [wrap_id, getD_map_in, Int.toNat_natCast, aopG, beq_self_eq_true, Option.toArray_none, Option.toArray_some, List.toList_toArray]); (repeat (refine And.intro (by (first | omega | (simp; done) | (simp; omega) | assumption)) ?_)); refine h' _ ?_; clear h' K') | (refine aops_nil (hK _ ?_); clear hK K hgs gs; try simp only [aThen, aBlock]) | ((first | refine aops_cons (fun K' h' => ?_) | refine aopsD_cons (fun K' h' => ?_)); simp only [go_sem, Nat.reduceLT, Nat.reduceLeDiff, Nat.reduceEqDiff, reduceIte, Nat.reduceAdd, Nat.reduceMul, Nat.reduceSub, Int.reduceLT, Int.reduceLE, Int.reduceToNat, Int.reduceNeg, reduceCtorEq, hgs, aopG, beq_self_eq_true, Option.toArray_none, Option.toArray_some, List.toList_toArray]; (first | refine ⟨_, hO1, ?_⟩ | refine ⟨_, fun _ => hO1, ?_⟩ | refine ⟨_, hO2, ?_⟩ | refine ⟨_, fun _ => hO2, ?_⟩ | refine ⟨_, hN1, ?_⟩ | refine ⟨_, fun _ => hN1, ?_⟩ | refine ⟨_, hN2, ?_⟩ | refine ⟨_, fun _ => hN2, ?_⟩ | refine ⟨_, hN3, ?_⟩ | refine ⟨_, fun _ => hN3, ?_⟩ | refine ⟨_, hT1, ?_⟩ | refine ⟨_, fun _ => hT1, ?_⟩ | refine ⟨_, hT2, ?_⟩ | refine ⟨_, fun _ => hT2, ?_⟩ | refine ⟨_, hT3, ?_⟩ | refine ⟨_, fun _ => hT3, ?_⟩ | refine ⟨_, hT4, ?_⟩ | refine ⟨_, fun _ => hT4, ?_⟩ | refine ⟨_, hT5, ?_⟩ | refine ⟨_, fun _ => hT5, ?_⟩ | refine ⟨_, hT6, ?_⟩ | refine ⟨_, fun _ => hT6, ?_⟩ | refine ⟨_, hT7, ?_⟩ | refine ⟨_, fun _ => hT7, ?_⟩ | refine ⟨_, hT8, ?_⟩ | refine ⟨_, fun _ => hT8, ?_⟩ | refine ⟨_, alive30_c, ?_⟩ | refine ⟨_, fun _ => alive30_c, ?_⟩ | refine ⟨_, hG1, ?_⟩ | refine ⟨_, fun _ => hG1, ?_⟩ | refine ⟨_, hG2, ?_⟩ | refine ⟨_, fun _ => hG2, ?_⟩ | refine ⟨_, hG3, ?_⟩ | refine ⟨_, fun _ => hG3, ?_⟩ | refine ⟨_, hG4, ?_⟩ | refine ⟨_, fun _ => hG4, ?_⟩ | refine ⟨_, hG5, ?_⟩ | refine ⟨_, fun _ => hG5, ?_⟩ | refine ⟨_, hG6, ?_⟩ | refine ⟨_, fun _ => hG6, ?_⟩ | refine ⟨_, hSs, ?_⟩ | refine ⟨_, fun _ => hSs, ?_⟩); (try simp only [go_sem, Nat.reduceLT, Nat.reduceLeDiff, Nat.reduceEqDiff, reduceIte, Nat.reduceAdd, Nat.reduceMul, Nat.reduceSub, Int.reduceLT, Int.reduceLE, Int.reduceToNat, Int.reduceNeg, reduceCtorEq, hgs, aopG, beq_self_eq_true, Option.toArray_none, Option.toArray_some, List.toList_toArray]); (repeat (refine And.intro (by (first | omega | (simp; done) | (simp; omega) | assumption)) ?_)); refine h' _ ?_; clear h' K') | (refine AWp.sreg (id := 15) dd8 rfl (fun gs K hgs hK => ?_); replace hgs : gs 0 = some 99 ∧ gs 3 = some 102 ∧ gs 6 = some 105 ∧ gs 9 = some 108 ∧ gs 12 = some 111 ∧ gs 15 = some 114 ∧ gs 18 = some 117 ∧ gs 21 = some 120 ∧ gs 25 = some 124 ∧ gs 29 = some 128 ∧ gs 33 = some 132 ∧ gs 37 = some 136 ∧ gs 41 = some 140 ∧ gs 47 = some 146 ∧ gs 51 = some 150 ∧ gs 59 = some 158 ∧ gs 63 = some 162 ∧ gs 67 = some 166 ∧ gs 71 = some 170 ∧ gs 75 = some 174 ∧ gs 79 = some 178 ∧ gs 83 = some 182 := ⟨hgs 0, hgs 3, hgs 6, hgs 9, hgs 12, hgs 15, hgs 18, hgs 21, hgs 25, hgs 29, hgs 33, hgs 37, hgs 41, hgs 47, hgs 51, hgs 59, hgs 63, hgs 67, hgs 71, hgs 75, hgs 79, hgs 83⟩) | (refine AWp.reg (id := 15) dd8 rfl (fun gs K hgs hK => ?_); replace hgs : gs 0 = some 99 ∧ gs 3 = some 102 ∧ gs 6 = some 105 ∧ gs 9 = some 108 ∧ gs 12 = some 111 ∧ gs 15 = some 114 ∧ gs 18 = some 117 ∧ gs 21 = some 120 ∧ gs 25 = some 124 ∧ gs 29 = some 128 ∧ gs 33 = some 132 ∧ gs 37 = some 136 ∧ gs 41 = some 140 ∧ gs 47 = some 146 ∧ gs 51 = some 150 ∧ gs 59 = some 158 ∧ gs 63 = some 162 ∧ gs 67 = some 166 ∧ gs 71 = some 170 ∧ gs 75 = some 174 ∧ gs 79 = some 178 ∧ gs 83 = some 182 := ⟨hgs 0, hgs 3, hgs 6, hgs 9, hgs 12, hgs 15, hgs 18, hgs 21, hgs 25, hgs 29, hgs 33, hgs 37, hgs 41, hgs 47, hgs 51, hgs 59, hgs 63, hgs 67, hgs 71, hgs 75, hgs 79, hgs 83⟩) | (refine AWp.sreg  dd8 rfl (fun gs K hgs hK => ?_); replace hgs : Nat.succ 0 = 1 := rfl) | refine AWp.seq ?_ | refine ARounds.step ?_ | refine AWp.block ?_ | refine AWp.label ?_ | (refine AWp.ret ?_; try simp only [aThen, aBlock]) | (refine AWp.skip ?_; try simp only [aThen, aBlock]) | (refine AWp.exit ?_; try simp only [aThen, aBlock, Nat.reduceEqDiff, reduceIte]) | (refine AWp.reg  dd8 rfl (fun gs K hgs hK => ?_); replace hgs : Nat.succ 0 = 1 := rfl) | (refine aops_consG (fun K' h' => ?_); simp only [go_sem, Nat.reduceLT, Nat.reduceLeDiff, Nat.reduceEqDiff, reduceIte, Nat.reduceAdd, Nat.reduceMul, Nat.reduceSub, Int.reduceLT, Int.reduceLE, Int.reduceToNat, Int.reduceNeg, reduceCtorEq, hgs, aopG, beq_self_eq_true, Option.toArray_none, Option.toArray_some, List.toList_toArray]; (try simp (disch := omega) only [wrap_id, getD_map_in, Int.toNat_natCast, aopG, beq_self_eq_true, Option.toArray_none, Option.toArray_some, List.toList_toArray]); (repeat (refine And.intro (by (first | omega | (simp; done) | (simp; omega) | assumption)) ?_)); refine h' _ ?_; clear h' K') | (refine AWp.cond rfl (fun h => ?_) (fun h => ?_) <;> (try simp only [decide_eq_true_eq, decide_eq_false_iff_not, beq_iff_eq, bne_iff_ne, ne_eq, Bool.not_eq_true', Bool.not_eq_false', beq_eq_false_iff_ne, Bool.true_eq_false, Bool.false_eq_true, Int.not_le, Int.not_lt, Bool.and_eq_true, Bool.and_eq_false_iff, Bool.or_eq_true, Bool.or_eq_false_iff, bne_eq_false_iff_eq, reduceCtorEq] at h) <;> (try first | contradiction | (exfalso; omega) | (exfalso; revert h; simp; done) | (exfalso; revert h; simp; omega)))))
  all_goals simp only [Out, outA, outL, resA, go_sem, Nat.reduceLT, Nat.reduceLeDiff, Nat.reduceEqDiff, reduceIte, Nat.reduceAdd, Nat.reduceMul, Nat.reduceSub, Int.reduceLT, Int.reduceLE, Int.reduceToNat, Int.reduceNeg, reduceCtorEq]
  all_goals exact AVle.refl _
theorem pnames_all : ∀ xs, ShpAs Try.prog 8 Try.f8.params.toList xs → ACall Try.prog 8 xs (.lit (.bool true)) := by
  intro xs h
  have hp : Try.f8.params.toList = [] := by kernel_rfl
  rw [hp] at h
  obtain rfl : xs = [] := h
  exact pnames_law
end Go.Proofs.Ytbciabkniljjgaa
