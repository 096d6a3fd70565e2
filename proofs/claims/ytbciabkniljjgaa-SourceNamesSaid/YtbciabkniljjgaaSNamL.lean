/-
  The law SourceNames.
-/
import Derived.Test.YtbciabkniljjgaaSEvL
namespace Go.Proofs.Ytbciabkniljjgaa
open Go.AL Go.RowKit
set_option linter.unusedSimpArgs false
set_option linter.unusedVariables false
set_option maxRecDepth 10000
set_option maxHeartbeats 8000000

def ev0 : Ev := ⟨false, 0, 0, 0, 0⟩
def ev1 : Ev := ⟨false, 1, 0, 0, 0⟩
def zerosE (n : Nat) : List Ev := List.replicate n ev0
def fullX : Tsk := ⟨1, 3, 0, [⟨0, told ev0⟩], [], [], zerosE 59, [], []⟩
def splitX : Tsk := ⟨3, 0, 0, [], [], [], [], [], []⟩

theorem zerosE_cells (n : Nat) : (zerosE n).map Ev.cells = List.replicate n [.lit (.bool false), .lit (.int .i64 0), .lit (.int .i64 0), .lit (.int .i64 0), .lit (.int .i64 0)] := by
  unfold zerosE; rw [List.map_replicate]; rfl
theorem small_ok {t : Tsk} (h1 : t.pend.length ≤ 100) (h2 : t.marks.length ≤ 100) (h3 : t.store.length ≤ 100) (h4 : t.evs.length ≤ 100) (h5 : t.rows.length ≤ 100) (h6 : t.late.length ≤ 100) : t.ok :=
  ⟨Nat.le_trans h1 (by decide), Nat.le_trans h2 (by decide), Nat.le_trans h3 (by decide), Nat.le_trans h4 (by decide), Nat.le_trans h5 (by decide), Nat.le_trans h6 (by decide)⟩
def nilC (k : Int) : List AV := [.lit (.int .u8 k), .lit (.int .i64 0), .lit (.int .i64 0), .lit (.slice none 0 0), .lit (.slice none 0 0), .lit (.slice none 0 0), .lit (.slice none 0 0), .lit (.slice none 0 0), .lit (.slice none 0 0)]
theorem nilC_le (k : Int) : AVle (.agg (nilC k)) (.agg (Tsk.mk k 0 0 [] [] [] [] [] []).cells) :=
  AVle.agg ⟨AVle.refl _, AVle.refl _, AVle.refl _, AVle.nil 11, AVle.nil 1, AVle.nil 11, AVle.nil 5, AVle.nil 5, AVle.nil 3, trivial⟩
def manyM : List Msg := sentR fullX
theorem manyM_len : manyM.length = 60 := by decide

def dd11 : Nat → List (List Nat)
  | 0 => [[], [0]]
  | 1 => [[], [], [33], [34], [], [32], [], [1, 35], [36]]
  | 2 => [[], [], [38], [], [37], [], [3, 39], [40]]
  | 3 => [[], [], [], [43], [42, 44], [45], [46], [], [41], [], [5, 47], [48]]
  | 4 => [[], [], [], [50, 51], [52], [53], [], [49], [], [7, 54], [55]]
  | 5 => [[], [], [57], [58], [], [56], [], [59], [60]]
  | 6 => [[], [], [62], [], [61], [], [63], [64]]
  | 7 => [[], [], [66], [67], [], [65], [], [13, 68], [69]]
  | 8 => [[], [11], [71], [72], [], [70], [73], [74]]
  | 9 => [[], [], [75], [], [76]]
  | 10 => [[], [], [78], [79], [], [77], [], [18, 80], [81]]
  | 11 => [[], [17], [83], [84], [], [82], [20, 85], [86]]
  | 12 => [[], [], [88], [89], [], [87], [], [22, 90], [91]]
  | 13 => [[], [], [93], [94], [], [92], [24, 95], [96]]
  | 14 => [[], [], [98], [99], [], [97], [], [100], [101]]
  | 15 => [[], [], [103], [104], [], [102], [], [28, 105], [106]]
  | 16 => [[], [], [108], [109], [], [107], [110], [111]]
  | 17 => [[], [], [], [112, 113], [114], [2], [116], [115, 117], [118], [4], [120], [119, 121], [122], [6], [124], [123, 125], [126], [8], [128], [127, 129], [130], [10], [132], [131, 133], [134], [9], [136], [], [137, 138], [135, 139], [140], [12], [142], [141, 143], [144], [14], [146], [145, 147], [148], [16], [150], [149, 151], [152], [15], [154], [155], [153, 156], [157], [19], [159], [158, 160], [161], [21], [163], [162, 164], [165], [23], [167], [166, 168], [169], [25], [171], [170, 172], [173], [27], [175], [174, 176], [177], [], [179], [180], [181], [178, 182], [183], [26], [185], [186], [187], [184, 188], [189], [29], [191], [190, 192], [193], [31], [195], [194, 196], [197], [30], [199], [200], [198, 201], [202]]
  | _ => []
theorem snames_law : ACall Try.prog 11 [] (.lit (.bool true)) := by
  have hW1 := new_t (-1) (zerosE 61) (by decide)
  have hW2 := (new_t 4 [] (by decide)).mono (args' := [.lit (.int .i64 4), .lit (.slice none 0 0)]) (.cons (.refl _) (.cons (AVle.nil 5) (.refl _))) (AVle.refl _)
  have hW3 := new_t 3 (zerosE 60 ++ [ev1]) (by decide)
  have hW4 := new_t 3 [ev0, ev1] (by decide)
  have hW5 := new_t 3 (zerosE 60) (by decide)
  have hW6 := (new_t 0 [] (by decide)).mono (args' := [.lit (.int .i64 0), .lit (.slice none 0 0)]) (.cons (.refl _) (.cons (AVle.nil 5) (.refl _))) (AVle.refl _)
  rw [show newErr (-1) (zerosE 61) = 2 by decide, show newTk (-1) (zerosE 61) = zeroT by decide] at hW1
  rw [show newErr 4 [] = 2 by decide, show newTk 4 [] = zeroT by decide] at hW2
  rw [show newErr 3 (zerosE 60 ++ [ev1]) = 4 by decide, show newTk 3 (zerosE 60 ++ [ev1]) = zeroT by decide] at hW3
  rw [show newErr 3 [ev0, ev1] = 8 by decide, show newTk 3 [ev0, ev1] = zeroT by decide] at hW4
  rw [show newErr 3 (zerosE 60) = 0 by decide, show newTk 3 (zerosE 60) = srcT 3 (zerosE 60) by decide] at hW5
  rw [show newErr 0 [] = 0 by decide, show newTk 0 [] = srcT 0 [] by decide] at hW6
  have o1 : (srcT 0 []).ok := small_ok (by decide) (by decide) (by decide) (by decide) (by decide) (by decide)
  have o2 : splitX.ok := small_ok (by decide) (by decide) (by decide) (by decide) (by decide) (by decide)
  have o3 : zeroT.ok := small_ok (by decide) (by decide) (by decide) (by decide) (by decide) (by decide)
  have o4 : (srcT 3 (zerosE 60)).ok := small_ok (by decide) (by decide) (by decide) (by decide) (by decide) (by decide)
  have o5 : fullX.ok := small_ok (by decide) (by decide) (by decide) (by decide) (by decide) (by decide)
  have hP1 := step_c (srcT 0 []) o1
  have hP2 := (step_c splitX o2).mono (args' := [.agg (nilC 3)]) (.cons (nilC_le 3) (.refl _)) (AVle.refl _)
  have hP3 := (step_c zeroT o3).mono (args' := [.agg (nilC 0)]) (.cons (nilC_le 0) (.refl _)) (AVle.refl _)
  have hP4 := step_c (srcT 3 (zerosE 60)) o4
  have hP5 := step_c fullX o5
  rw [show stepT (srcT 0 []) = zeroT by decide, show stepE (srcT 0 []) = 6 by decide] at hP1
  rw [show stepT splitX = zeroT by decide, show stepE splitX = 2 by decide] at hP2
  rw [show stepT zeroT = zeroT by decide, show stepE zeroT = 8 by decide] at hP3
  rw [show stepT (srcT 3 (zerosE 60)) = fullX by decide, show stepE (srcT 3 (zerosE 60)) = 0 by decide] at hP4
  rw [show stepT fullX = zeroT by decide, show stepE fullX = 18 by decide] at hP5
  have hN1 := sent_c (srcT 0 []) o1
  have hN2 := (sent_c splitX o2).mono (args' := [.agg (nilC 3)]) (.cons (nilC_le 3) (.refl _)) (AVle.refl _)
  have hN3 := (sent_c zeroT o3).mono (args' := [.agg (nilC 0)]) (.cons (nilC_le 0) (.refl _)) (AVle.refl _)
  have hN4 := sent_c fullX o5
  rw [show sentR (srcT 0 []) = [] by decide, show askE (srcT 0 []) = 0 by decide] at hN1
  rw [show sentR splitX = [] by decide, show askE splitX = 2 by decide] at hN2
  rw [show sentR zeroT = [] by decide, show askE zeroT = 8 by decide] at hN3
  rw [show sentR fullX = manyM from rfl, show askE fullX = 0 by decide] at hN4
  have hml := manyM_len
  have e59 : (zerosE 59).length = 59 := by decide
  clear o1 o2 o3 o4 o5
  generalize manyM = mm at *
  unfold srcT fullX zeroT nilC Tsk.cells sndsV mksV entsV evsV rowsV rcdsV at *
  simp only [List.map_append, zerosE_cells, List.map_nil, List.map_cons, ev0, ev1, Ev.cells, Snd.cells, Msg.cells, told] at *
  refine acall_of (n := 203) (rs := [.tmp 0]) Try.func11 rfl (by kernel_rfl) rfl rfl rfl ?_; simp only [argsE, Nat.reduceAdd]
  repeat (any_goals (first | (refine aops_cons (fun K' h' => ?_); simp only [go_sem, Nat.reduceLT, Nat.reduceLeDiff, Nat.reduceEqDiff, reduceIte, Nat.reduceAdd, Nat.reduceMul, Nat.reduceSub, Int.reduceLT, Int.reduceLE, Int.reduceToNat, Int.reduceNeg, reduceCtorEq, hgs, aopG, bne_self_eq_false, Bool.not_false, beq_self_eq_true, Option.toArray_none, Option.toArray_some, List.toList_toArray, List.length_map, hml, List.length_replicate]; (try simp (disch := omega) only [wrap_id, getD_map_in, Int.toNat_natCast, aopG, bne_self_eq_false, Bool.not_false, beq_self_eq_true, Option.toArray_none, Option.toArray_some, List.toList_toArray, List.length_map, hml, List.length_replicate]); (repeat (refine And.intro (by (first | omega | (simp; done) | (simp; omega) | assumption)) ?_)); refine h' _ ?_; clear h' K') | (refine aops_nil (hK _ ?_); clear hK K hgs gs; try simp only [aThen, aBlock]) | ((first | refine aops_cons (fun K' h' => ?_) | refine aopsD_cons (fun K' h' => ?_)); simp only [go_sem, Nat.reduceLT, Nat.reduceLeDiff, Nat.reduceEqDiff, reduceIte, Nat.reduceAdd, Nat.reduceMul, Nat.reduceSub, Int.reduceLT, Int.reduceLE, Int.reduceToNat, Int.reduceNeg, reduceCtorEq, hgs, aopG, bne_self_eq_false, Bool.not_false, beq_self_eq_true, Option.toArray_none, Option.toArray_some, List.toList_toArray, List.length_map, hml, List.length_replicate]; (first | refine ⟨_, alive28_c, ?_⟩ | refine ⟨_, fun _ => alive28_c, ?_⟩ | refine ⟨_, hW2, ?_⟩ | refine ⟨_, fun _ => hW2, ?_⟩ | refine ⟨_, hW6, ?_⟩ | refine ⟨_, fun _ => hW6, ?_⟩ | refine ⟨_, hP1, ?_⟩ | refine ⟨_, fun _ => hP1, ?_⟩ | refine ⟨_, hP2, ?_⟩ | refine ⟨_, fun _ => hP2, ?_⟩ | refine ⟨_, hP3, ?_⟩ | refine ⟨_, fun _ => hP3, ?_⟩ | refine ⟨_, hP4, ?_⟩ | refine ⟨_, fun _ => hP4, ?_⟩ | refine ⟨_, hP5, ?_⟩ | refine ⟨_, fun _ => hP5, ?_⟩ | refine ⟨_, hN1, ?_⟩ | refine ⟨_, fun _ => hN1, ?_⟩ | refine ⟨_, hN2, ?_⟩ | refine ⟨_, fun _ => hN2, ?_⟩ | refine ⟨_, hN3, ?_⟩ | refine ⟨_, fun _ => hN3, ?_⟩ | refine ⟨_, hN4, ?_⟩ | refine ⟨_, fun _ => hN4, ?_⟩); (try simp only [go_sem, Nat.reduceLT, Nat.reduceLeDiff, Nat.reduceEqDiff, reduceIte, Nat.reduceAdd, Nat.reduceMul, Nat.reduceSub, Int.reduceLT, Int.reduceLE, Int.reduceToNat, Int.reduceNeg, reduceCtorEq, hgs, aopG, bne_self_eq_false, Bool.not_false, beq_self_eq_true, Option.toArray_none, Option.toArray_some, List.toList_toArray, List.length_map, hml, List.length_replicate]); (repeat (refine And.intro (by (first | omega | (simp; done) | (simp; omega) | assumption)) ?_)); refine h' _ ?_; clear h' K') | (refine aops_consF [] (fun K' h' => ?_); simp only [go_sem, Nat.reduceLT, Nat.reduceLeDiff, Nat.reduceEqDiff, reduceIte, Nat.reduceAdd, Nat.reduceMul, Nat.reduceSub, Int.reduceLT, Int.reduceLE, Int.reduceToNat, Int.reduceNeg, reduceCtorEq, hgs, aopG, bne_self_eq_false, Bool.not_false, beq_self_eq_true, Option.toArray_none, Option.toArray_some, List.toList_toArray, List.length_map, hml, List.length_replicate]; refine ⟨_, hW1, ?_⟩; (try simp only [go_sem, Nat.reduceLT, Nat.reduceLeDiff, Nat.reduceEqDiff, reduceIte, Nat.reduceAdd, Nat.reduceMul, Nat.reduceSub, Int.reduceLT, Int.reduceLE, Int.reduceToNat, Int.reduceNeg, reduceCtorEq, hgs, aopG, bne_self_eq_false, Bool.not_false, beq_self_eq_true, Option.toArray_none, Option.toArray_some, List.toList_toArray, List.length_map, hml, List.length_replicate]); (repeat (refine And.intro (by (first | omega | (simp; done) | (simp; omega) | assumption)) ?_)); refine h' _ ?_; clear h' K') | (refine aops_consF [] (fun K' h' => ?_); simp only [go_sem, Nat.reduceLT, Nat.reduceLeDiff, Nat.reduceEqDiff, reduceIte, Nat.reduceAdd, Nat.reduceMul, Nat.reduceSub, Int.reduceLT, Int.reduceLE, Int.reduceToNat, Int.reduceNeg, reduceCtorEq, hgs, aopG, bne_self_eq_false, Bool.not_false, beq_self_eq_true, Option.toArray_none, Option.toArray_some, List.toList_toArray, List.length_map, hml, List.length_replicate]; refine ⟨_, hW3, ?_⟩; (try simp only [go_sem, Nat.reduceLT, Nat.reduceLeDiff, Nat.reduceEqDiff, reduceIte, Nat.reduceAdd, Nat.reduceMul, Nat.reduceSub, Int.reduceLT, Int.reduceLE, Int.reduceToNat, Int.reduceNeg, reduceCtorEq, hgs, aopG, bne_self_eq_false, Bool.not_false, beq_self_eq_true, Option.toArray_none, Option.toArray_some, List.toList_toArray, List.length_map, hml, List.length_replicate]); (repeat (refine And.intro (by (first | omega | (simp; done) | (simp; omega) | assumption)) ?_)); refine h' _ ?_; clear h' K') | (refine aops_consF [] (fun K' h' => ?_); simp only [go_sem, Nat.reduceLT, Nat.reduceLeDiff, Nat.reduceEqDiff, reduceIte, Nat.reduceAdd, Nat.reduceMul, Nat.reduceSub, Int.reduceLT, Int.reduceLE, Int.reduceToNat, Int.reduceNeg, reduceCtorEq, hgs, aopG, bne_self_eq_false, Bool.not_false, beq_self_eq_true, Option.toArray_none, Option.toArray_some, List.toList_toArray, List.length_map, hml, List.length_replicate]; refine ⟨_, hW4, ?_⟩; (try simp only [go_sem, Nat.reduceLT, Nat.reduceLeDiff, Nat.reduceEqDiff, reduceIte, Nat.reduceAdd, Nat.reduceMul, Nat.reduceSub, Int.reduceLT, Int.reduceLE, Int.reduceToNat, Int.reduceNeg, reduceCtorEq, hgs, aopG, bne_self_eq_false, Bool.not_false, beq_self_eq_true, Option.toArray_none, Option.toArray_some, List.toList_toArray, List.length_map, hml, List.length_replicate]); (repeat (refine And.intro (by (first | omega | (simp; done) | (simp; omega) | assumption)) ?_)); refine h' _ ?_; clear h' K') | (refine aops_consF [] (fun K' h' => ?_); simp only [go_sem, Nat.reduceLT, Nat.reduceLeDiff, Nat.reduceEqDiff, reduceIte, Nat.reduceAdd, Nat.reduceMul, Nat.reduceSub, Int.reduceLT, Int.reduceLE, Int.reduceToNat, Int.reduceNeg, reduceCtorEq, hgs, aopG, bne_self_eq_false, Bool.not_false, beq_self_eq_true, Option.toArray_none, Option.toArray_some, List.toList_toArray, List.length_map, hml, List.length_replicate]; refine ⟨_, hW5, ?_⟩; (try simp only [go_sem, Nat.reduceLT, Nat.reduceLeDiff, Nat.reduceEqDiff, reduceIte, Nat.reduceAdd, Nat.reduceMul, Nat.reduceSub, Int.reduceLT, Int.reduceLE, Int.reduceToNat, Int.reduceNeg, reduceCtorEq, hgs, aopG, bne_self_eq_false, Bool.not_false, beq_self_eq_true, Option.toArray_none, Option.toArray_some, List.toList_toArray, List.length_map, hml, List.length_replicate]); (repeat (refine And.intro (by (first | omega | (simp; done) | (simp; omega) | assumption)) ?_)); refine h' _ ?_; clear h' K') | (refine AWp.sreg (id := 17) dd11 rfl (fun gs K hgs hK => ?_); replace hgs : gs 0 = some 112 ∧ gs 3 = some 115 ∧ gs 7 = some 119 ∧ gs 11 = some 123 ∧ gs 15 = some 127 ∧ gs 19 = some 131 ∧ gs 23 = some 135 ∧ gs 29 = some 141 ∧ gs 33 = some 145 ∧ gs 37 = some 149 ∧ gs 41 = some 153 ∧ gs 46 = some 158 ∧ gs 50 = some 162 ∧ gs 54 = some 166 ∧ gs 58 = some 170 ∧ gs 62 = some 174 ∧ gs 66 = some 178 ∧ gs 72 = some 184 ∧ gs 78 = some 190 ∧ gs 82 = some 194 ∧ gs 86 = some 198 := ⟨hgs 0, hgs 3, hgs 7, hgs 11, hgs 15, hgs 19, hgs 23, hgs 29, hgs 33, hgs 37, hgs 41, hgs 46, hgs 50, hgs 54, hgs 58, hgs 62, hgs 66, hgs 72, hgs 78, hgs 82, hgs 86⟩) | (refine AWp.reg (id := 17) dd11 rfl (fun gs K hgs hK => ?_); replace hgs : gs 0 = some 112 ∧ gs 3 = some 115 ∧ gs 7 = some 119 ∧ gs 11 = some 123 ∧ gs 15 = some 127 ∧ gs 19 = some 131 ∧ gs 23 = some 135 ∧ gs 29 = some 141 ∧ gs 33 = some 145 ∧ gs 37 = some 149 ∧ gs 41 = some 153 ∧ gs 46 = some 158 ∧ gs 50 = some 162 ∧ gs 54 = some 166 ∧ gs 58 = some 170 ∧ gs 62 = some 174 ∧ gs 66 = some 178 ∧ gs 72 = some 184 ∧ gs 78 = some 190 ∧ gs 82 = some 194 ∧ gs 86 = some 198 := ⟨hgs 0, hgs 3, hgs 7, hgs 11, hgs 15, hgs 19, hgs 23, hgs 29, hgs 33, hgs 37, hgs 41, hgs 46, hgs 50, hgs 54, hgs 58, hgs 62, hgs 66, hgs 72, hgs 78, hgs 82, hgs 86⟩) | (refine AWp.sreg  dd11 rfl (fun gs K hgs hK => ?_); replace hgs : Nat.succ 0 = 1 := rfl) | refine AWp.seq ?_ | refine ARounds.step ?_ | refine AWp.block ?_ | refine AWp.label ?_ | (refine AWp.ret ?_; try simp only [aThen, aBlock]) | (refine AWp.skip ?_; try simp only [aThen, aBlock]) | (refine AWp.exit ?_; try simp only [aThen, aBlock, Nat.reduceEqDiff, reduceIte]) | (refine AWp.reg  dd11 rfl (fun gs K hgs hK => ?_); replace hgs : Nat.succ 0 = 1 := rfl) | (refine aops_consG (fun K' h' => ?_); simp only [go_sem, Nat.reduceLT, Nat.reduceLeDiff, Nat.reduceEqDiff, reduceIte, Nat.reduceAdd, Nat.reduceMul, Nat.reduceSub, Int.reduceLT, Int.reduceLE, Int.reduceToNat, Int.reduceNeg, reduceCtorEq, hgs, aopG, bne_self_eq_false, Bool.not_false, beq_self_eq_true, Option.toArray_none, Option.toArray_some, List.toList_toArray, List.length_map, hml, List.length_replicate]; (try simp (disch := omega) only [wrap_id, getD_map_in, Int.toNat_natCast, aopG, bne_self_eq_false, Bool.not_false, beq_self_eq_true, Option.toArray_none, Option.toArray_some, List.toList_toArray, List.length_map, hml, List.length_replicate]); (repeat (refine And.intro (by (first | omega | (simp; done) | (simp; omega) | assumption)) ?_)); refine h' _ ?_; clear h' K') | (refine AWp.cond rfl (fun h => ?_) (fun h => ?_) <;> (try simp only [decide_eq_true_eq, decide_eq_false_iff_not, beq_iff_eq, bne_iff_ne, ne_eq, Bool.not_eq_true', Bool.not_eq_false', beq_eq_false_iff_ne, Bool.true_eq_false, Bool.false_eq_true, Int.not_le, Int.not_lt, Bool.and_eq_true, Bool.and_eq_false_iff, Bool.or_eq_true, Bool.or_eq_false_iff, bne_eq_false_iff_eq, reduceCtorEq] at h) <;> (try first | contradiction | (exfalso; omega) | (exfalso; revert h; simp; done) | (exfalso; revert h; simp; omega)))))
  simp only [Out, outA, outL, resA, go_sem, Nat.reduceLT, Nat.reduceLeDiff, Nat.reduceEqDiff, reduceIte, Nat.reduceAdd, Nat.reduceMul, Nat.reduceSub, Int.reduceLT, Int.reduceLE, Int.reduceToNat, Int.reduceNeg, reduceCtorEq]
  exact AVle.of_eq (by simp)
theorem snames_all : ∀ xs, ShpAs Try.prog 8 Try.f11.params.toList xs → ACall Try.prog 11 xs (.lit (.bool true)) := by
  intro xs h
  have hp : Try.f11.params.toList = [] := by kernel_rfl
  rw [hp] at h
  obtain rfl : xs = [] := h
  exact snames_law
end Go.Proofs.Ytbciabkniljjgaa
