/-
  The law FilterNames.
-/
import Derived.Test.YtmooelhocanlnaaFAlv
import Derived.Test.YtmooelhocanlnaaFltE
import Derived.Test.YtmooelhocanlnaaAbsR
namespace Go.Proofs.Ytmooelhocanlnaa
open Go.AL Go.RowKit
set_option linter.unusedSimpArgs false
set_option linter.unusedVariables false
set_option maxRecDepth 10000
set_option maxHeartbeats 8000000

theorem ofE_of {l : List Node} {e : Ex} (hx : IsEx l e) (h1 : e.sz ≤ 60) (h2 : e.dp ≤ 20) (hw : wrongL l = l.length) : ofE l = 0 := by
  unfold ofE
  rw [errL_of hx h1 h2, hw]
  simp
def nd (k n a b : Int) : Node := ⟨k, n, a, b, 0⟩
def lf (k n : Int) : Ex := .leaf ⟨k, n, 0⟩
def bi (k : Int) (e f : Ex) : Ex := .bin ⟨k, 0, 0⟩ e f
def okHd (x : Hd) : Bool := decide (1 ≤ x.kind) && decide (x.kind ≤ 19) && decide (0 ≤ x.n) && (x.n == 0 || x.kind == 1) && decide (0 ≤ x.pos) && decide (x.pos ≤ 400)
theorem okHd_ok {x : Hd} (h : okHd x = true) : x.ok := by
  unfold okHd at h
  simp only [Bool.and_eq_true, Bool.or_eq_true, decide_eq_true_eq, beq_iff_eq] at h
  obtain ⟨⟨⟨⟨⟨h1, h2⟩, h3⟩, h4⟩, h5⟩, h6⟩ := h
  exact ⟨h1, h2, h3, h4, h5, h6⟩
def okEx : Ex → Bool
  | .leaf x => okHd x && decide (x.kind ≤ 4)
  | .un x e => okHd x && decide (4 < x.kind) && decide (x.kind ≤ 6) && okEx e
  | .bin x e f => okHd x && decide (6 < x.kind) && okEx e && okEx f
theorem okEx_wf : ∀ {e : Ex}, okEx e = true → e.wf
  | .leaf x, h => by
    simp only [okEx, Bool.and_eq_true, decide_eq_true_eq] at h
    exact ⟨okHd_ok h.1, h.2⟩
  | .un x e, h => by
    simp only [okEx, Bool.and_eq_true, decide_eq_true_eq] at h
    exact ⟨okHd_ok h.1.1.1, h.1.1.2, h.1.2, okEx_wf h.2⟩
  | .bin x e f, h => by
    simp only [okEx, Bool.and_eq_true, decide_eq_true_eq] at h
    exact ⟨okHd_ok h.1.1.1, h.1.1.2, okEx_wf h.1.2, okEx_wf h.2⟩
/-- a list that is told to be an expression, with its tree -/
theorem exE {l : List Node} (e : Ex) (h : okEx e = true) (hl : l = e.fl 0) (h1 : e.sz ≤ 60) (h2 : e.dp ≤ 20) (hw : wrongL l = l.length) : ofE l = 0 := ofE_of ⟨okEx_wf h, hl⟩ h1 h2 hw
theorem exV {r : Rcd} {l : List Node} (h : ofE l = 0) {v : Int} (hv : valAt r l (l.length - 1) = v) : ofV r l = v := by unfold ofV; rw [if_pos h, hv]
def argL : List Node := [nd 4 0 0 0]
def whL : List Node := [nd 2 0 0 0, nd 1 5 0 0, nd 12 0 0 1]
theorem argE : ofE argL = 0 := exE (lf 4 0) (by decide) (by decide) (by decide) (by decide) (by decide)
theorem whE : ofE whL = 0 := exE (bi 12 (lf 2 0) (lf 1 5)) (by decide) (by decide) (by decide) (by decide) (by decide)
def qA (b : Bool) (lt : Int) : Qry := ⟨2, argL, [0], false, whL, ⟨1, 10, 0⟩, b, lt⟩
theorem errL_0 {l : List Node} (h : ofE l = 0) : errL l = 0 := (ofE_0 h).1
theorem ofB_at {l : List Node} (h : ofE l = 0) : ofB l = givesB (l.getD (l.length - 1) default).kind := (ofE_ok (ofE_0 h).1 (ofE_0 h).2).2.2
theorem qA_acc (b : Bool) {lt : Int} (h : lt = 1 ∨ lt = 2) : accE (qA b lt) = 0 := by
  have h1 : srcE [0] false = 0 := by decide
  have h2 : winE ⟨1, 10, 0⟩ = 0 := by unfold winE; rw [if_pos (by unfold winP; simp)]
  have hc : chkE (qA b lt) = 0 := by
    unfold chkE qA
    simp only [errL_0 argE, errL_0 whE, h1, h2]
    rw [if_neg (by omega)]
    simp
  have ha : wantE argL false = 0 := by
    unfold wantE
    rw [if_neg (fun h => h.2 (by rw [ofB_at argE]; decide))]
    exact argE
  have hw : wantE whL true = 0 := by
    unfold wantE
    rw [if_neg (fun h => h.2 (by rw [ofB_at whE]; decide))]
    exact whE
  unfold accE
  rw [hc]
  unfold fstE qA
  simp [ha, hw]
theorem qA_fit (b : Bool) (lt : Int) : (qA b lt).fit :=
  ⟨by simp [qA, argL], by simp [qA, whL], by simp [qA], by simp [qA], fun x h => by simp [qA, argL] at h; subst h; exact ⟨by decide, by decide⟩, fun x h => by
    simp [qA, whL] at h
    rcases h with rfl | rfl | rfl
    all_goals exact ⟨by decide, by decide⟩⟩
theorem qA_pass (b : Bool) (lt : Int) (r : Rcd) : passB (qA b lt) r = decide (r.key < 5) ∧ (r.key < 5 → projR (qA b lt) r = ⟨if b = true then r.key else 0, r.t, r.v⟩) := by
  have hv : ofV r whL = if r.key < 5 then 1 else 0 := by
    unfold ofV
    rw [if_pos whE]
    show (valsL r whL).getD 2 default = _
    simp [valsL, whL, nd, nodeV, leafV, doV, cmpB, trI]
  have ha : ofV r argL = r.v := by
    unfold ofV
    rw [if_pos argE]
    show (valsL r argL).getD 0 default = _
    simp [valsL, argL, nd, nodeV, leafV]
  have hp : passB (qA b lt) r = decide (r.key < 5) := by
    unfold passB qA
    simp only [hv]
    by_cases h : r.key < 5
    · simp [h]
    · simp [h, whL]
  refine ⟨hp, fun h => ?_⟩
  unfold projR
  rw [hp, if_pos (decide_eq_true h)]
  unfold qA
  simp [ha]
def zeroQ : Qry := ⟨0, [], [], false, [], ⟨0, 0, 0⟩, false, 0⟩
def zeroM : Msg := ⟨0, 0, 0, 0, 0, 0, 0, 0, 0, 0⟩
theorem zeroQ_fit : zeroQ.fit := ⟨by simp [zeroQ], by simp [zeroQ], by simp [zeroQ], by simp [zeroQ], fun x h => by simp [zeroQ] at h, fun x h => by simp [zeroQ] at h⟩
theorem zeroQ_acc : accE zeroQ = 8 := by
  have : chkE zeroQ = 8 := by unfold chkE; rw [if_pos (by simp [zeroQ])]
  unfold accE
  rw [this]; simp
theorem zeroQ_le : AVle (.agg [.lit (.int .u8 0), .lit (.slice none 0 0), .lit (.slice none 0 0), .lit (.bool false), .lit (.slice none 0 0), .lit (.int .u8 0), .lit (.int .i64 0), .lit (.int .i64 0), .lit (.bool false), .lit (.int .u8 0)]) (.agg zeroQ.cells) :=
  AVle.agg ⟨AVle.refl _, AVle.nil 5, AVle.nil 1, AVle.refl _, AVle.nil 5, AVle.refl _, AVle.refl _, AVle.refl _, AVle.refl _, AVle.refl _, trivial⟩
def busyT : Tsk := ⟨2, 3, 0, [⟨0, markM 1⟩], [-9223372036854775808], [], [], [], []⟩
def spT : Tsk := ⟨3, 0, 0, [], [], [], [], [], []⟩
theorem tiny_ok {t : Tsk} (h1 : t.pend.length ≤ 10) (h2 : t.marks.length ≤ 10) (h3 : t.store = []) (h4 : t.evs = []) (h5 : t.rows = []) (h6 : t.late = []) : t.ok :=
  ⟨Nat.le_trans h1 (by decide), Nat.le_trans h2 (by decide), by rw [h3]; simp, by rw [h4]; simp, by rw [h5]; simp, by rw [h6]; simp⟩
theorem spT_le : AVle (.agg [.lit (.int .u8 3), .lit (.int .i64 0), .lit (.int .i64 0), .lit (.slice none 0 0), .lit (.slice none 0 0), .lit (.slice none 0 0), .lit (.slice none 0 0), .lit (.slice none 0 0), .lit (.slice none 0 0)]) (.agg spT.cells) :=
  AVle.agg ⟨AVle.refl _, AVle.refl _, AVle.refl _, AVle.nil 11, AVle.nil 1, AVle.nil 11, AVle.nil 5, AVle.nil 5, AVle.nil 3, trivial⟩
theorem tk_no {q : Qry} {t : Tsk} {m : Msg} {e : Int} (h : tkE q t m = e) (h0 : e ≠ 0) : tkT q t m = zeroT := by unfold tkT; rw [h, if_neg h0]
theorem rcd_B {k t v : Int} (h1 : i64B k) (h2 : i64B t) (h3 : i64B v) : (recM ⟨k, t, v⟩).rcd.B := ⟨h1, h2, h3⟩

def dd6 : Nat → List (List Nat)
  | 0 => [[], [0]]
  | 1 => [[], [], [30], [], [29], [], [31], [32]]
  | 2 => [[], [], [34], [], [33], [], [3, 35], [36]]
  | 3 => [[], [], [38], [], [37], [], [5, 39], [40]]
  | 4 => [[], [], [], [], [42, 43, 44], [45], [], [41], [], [7, 46], [47]]
  | 5 => [[], [], [], [], [49, 50, 51], [52], [], [48], [], [9, 53], [54]]
  | 6 => [[], [], [], [57], [], [56, 58, 59], [60], [], [55], [], [11, 61], [62]]
  | 9 => [[], [], [77], [], [78]]
  | 10 => [[], [], [79], [80], [], [81, 82]]
  | 12 => [[], [], [], [91, 92], [93], [], [], [90], [], [20, 94], [21, 95], [96]]
  | 13 => [[], [], [], [98, 99], [100], [], [], [97], [], [23, 101], [24, 102], [103]]
  | 14 => [[], [], [], [104]]
  | 15 => [[], [], [105], [], [107], [], [106, 108], [], [109], [], [110]]
  | 16 => [[], [], [], [], [111, 112, 113], [], [114, 115]]
  | 18 => [[], [], [158], [], [159]]
  | 20 => [[], [], [174], [2], [176], [175, 177], [178], [], [180], [], [181, 182], [179, 183], [184], [], [186], [187], [188], [185, 189], [190], [1], [192], [193], [194], [195], [191, 196], [197], [4], [199], [198, 200], [201], [6], [203], [202, 204], [205], [8], [207], [206, 208], [209], [10], [211], [210, 212], [213], [12], [215], [214, 216], [217], [14], [219], [218, 220], [221], [16], [223], [222, 224], [225], [19], [227], [226, 228], [229], [22], [231], [230, 232], [233], [25], [235], [234, 236], [237], [27], [238, 239], [240], [28], [241, 242], [243]]
  | _ => []
def fo6 : Nat → List Nat
  | 7 => [1, 2, 4, 6, 8, 10, 12, 14]
  | 8 => [1, 2, 4, 6, 8, 10, 12, 14, 16]
  | 11 => [1, 2, 4, 6, 8, 10, 12, 14, 16, 19]
  | 17 => [1, 2, 4, 6, 8, 10, 12, 14, 16, 19, 22, 25, 26, 27]
  | 19 => [1, 2, 4, 6, 8, 10, 12, 14, 16, 19, 22, 25, 27, 28]
  | _ => []
theorem fnames_law : ACall Try.prog 6 [] (.lit (.bool true)) := by
  have hN1 := newF_c 3
  have hN2 := newF_c 4
  have hN3 := newF_c (-1)
  rw [show newFE 3 = 0 by decide, show newFT 3 = filtT 3 (-9223372036854775808) [] by decide] at hN1
  rw [show newFE 4 = 2 by decide, show newFT 4 = zeroT by decide] at hN2
  rw [show newFE (-1) = 2 by decide, show newFT (-1) = zeroT by decide] at hN3
  have zm : zeroM.rcd.B := ⟨⟨by decide, by decide⟩, ⟨by decide, by decide⟩, ⟨by decide, by decide⟩⟩
  have ok0 : zeroT.ok := tiny_ok (by decide) (by decide) rfl rfl rfl rfl
  have oks : spT.ok := tiny_ok (by decide) (by decide) rfl rfl rfl rfl
  have okf : (filtT 3 (-9223372036854775808) []).ok := tiny_ok (by decide) (by decide) rfl rfl rfl rfl
  have okb : busyT.ok := tiny_ok (by decide) (by decide) rfl rfl rfl rfl
  have a0 := countQ_acc
  have k1 : tkE zeroQ zeroT zeroM = 8 := by unfold tkE; rw [zeroQ_acc]; simp
  have k2 : tkE countQ zeroT zeroM = 8 := by unfold tkE; rw [a0, show tskE zeroT = 8 by decide]; simp
  have k3 : tkE countQ spT zeroM = 2 := by unfold tkE; rw [a0, show tskE spT = 0 by decide, show spT.kind = 3 from rfl]; simp
  have k4 : tkE countQ (filtT 3 (-9223372036854775808) []) zeroM = 8 := by unfold tkE; rw [a0, show tskE (filtT 3 (-9223372036854775808) []) = 0 by decide, show (filtT 3 (-9223372036854775808) []).kind = 2 from rfl, show carrF zeroM = false by decide]; simp
  have k5 : tkE countQ (filtT 3 (-9223372036854775808) []) (lateM ⟨0, 1, 2⟩) = 8 := by unfold tkE; rw [a0, show tskE (filtT 3 (-9223372036854775808) []) = 0 by decide, show (filtT 3 (-9223372036854775808) []).kind = 2 from rfl, show carrF (lateM ⟨0, 1, 2⟩) = false by decide]; simp
  have k6 : tkE countQ busyT (markM 5) = 18 := by unfold tkE; rw [a0, show tskE busyT = 0 by decide, show busyT.kind = 2 from rfl, show carrF (markM 5) = true by decide, show busyT.pend.length = 1 from rfl]; simp
  have hK1 := (takeF_c zeroQ zeroT zeroM zeroQ_fit ok0 zm).mono (.cons zeroQ_le (.cons zeroT_le (.refl _))) (AVle.refl _)
  have hK2 := (takeF_c countQ zeroT zeroM countQ_fit ok0 zm).mono (.cons (AVle.refl _) (.cons zeroT_le (.refl _))) (AVle.refl _)
  have hK3 := (takeF_c countQ spT zeroM countQ_fit oks zm).mono (.cons (AVle.refl _) (.cons spT_le (.refl _))) (AVle.refl _)
  have hK4 := takeF_c countQ (filtT 3 (-9223372036854775808) []) zeroM countQ_fit okf zm
  have hK5 := takeF_c countQ (filtT 3 (-9223372036854775808) []) (lateM ⟨0, 1, 2⟩) countQ_fit okf ⟨⟨by decide, by decide⟩, ⟨by decide, by decide⟩, ⟨by decide, by decide⟩⟩
  have hK6 := takeF_c countQ busyT (markM 5) countQ_fit okb ⟨⟨by decide, by decide⟩, ⟨by decide, by decide⟩, ⟨by decide, by decide⟩⟩
  rw [k1, tk_no k1 (by decide)] at hK1
  rw [k2, tk_no k2 (by decide)] at hK2
  rw [k3, tk_no k3 (by decide)] at hK3
  rw [k4, tk_no k4 (by decide)] at hK4
  rw [k5, tk_no k5 (by decide)] at hK5
  rw [k6, tk_no k6 (by decide)] at hK6
  have hJ1 := (project_c zeroQ ⟨0, 0, 0⟩ zeroQ_fit ⟨⟨by decide, by decide⟩, ⟨by decide, by decide⟩, ⟨by decide, by decide⟩⟩).mono (.cons zeroQ_le (.refl _)) (AVle.refl _)
  have hJ2 := project_c countQ ⟨0, 1099511627777, 0⟩ countQ_fit ⟨⟨by decide, by decide⟩, ⟨by decide, by decide⟩, ⟨by decide, by decide⟩⟩
  have j1 : prjE zeroQ ⟨0, 0, 0⟩ = 8 := by unfold prjE; rw [zeroQ_acc]; simp
  have j2 : prjE countQ ⟨0, 1099511627777, 0⟩ = 8 := by unfold prjE; rw [if_neg (by decide)]
  have jj : ∀ q r, prjE q r = 8 → prjB q r = false ∧ prjR q r = ⟨0, 0, 0⟩ := fun q r h => by unfold prjB prjR; rw [h]; simp
  rw [j1, (jj _ _ j1).1, (jj _ _ j1).2] at hJ1
  rw [j2, (jj _ _ j2).1, (jj _ _ j2).2] at hJ2
  have hTw := twinT_c (filtT 3 (-9223372036854775808) []) (by decide) (by decide) (by decide) (by decide) (by decide) (by decide)
  have hCt := count_q
  have hMk := fun t => markL_c t
  have hRc := fun k t v => recL_c k t v
  have hLt := fun k t v => lateL_c k t v
  have hTo1 := toL_c 0 (markM 1)
  have hTo2 := toL_c 0 (recM ⟨4, 10, 7⟩)
  have hTo3 := toL_c 0 (markM 11)
  have hTo4 := toL_c 0 (recM ⟨4, -1099511627776, 0⟩)
  have hTo5 := toL_c 0 (recM ⟨0, 10, 7⟩)
  have hTo6 := toL_c 1 (lateM ⟨5, 9, 7⟩)
  have hnil : ∀ (q : Qry) (a : Int) (m : Msg) (b : Int), ACall Try.prog 23 [.agg q.cells, .lit (.int .i64 a), .agg m.cells, .lit (.int .i64 b), sndsV []] (.lit (.bool true)) → ACall Try.prog 23 [.agg q.cells, .lit (.int .i64 a), .agg m.cells, .lit (.int .i64 b), .lit (.slice none 0 0)] (.lit (.bool true)) :=
    fun q a m b h => h.mono (.cons (.refl _) (.cons (.refl _) (.cons (.refl _) (.cons (.refl _) (.cons (AVle.nil 11) (.refl _)))))) (AVle.refl _)
  have f1 := qA_fit true 1
  have f2 := qA_fit false 2
  have c1 := qA_acc true (lt := 1) (.inl rfl)
  have c2 := qA_acc false (lt := 2) (.inr rfl)
  have b0 : ∀ {k t v : Int}, i64B k → i64B t → i64B v → (recM ⟨k, t, v⟩).rcd.B := fun h1 h2 h3 => ⟨h1, h2, h3⟩
  have bm : ∀ {t : Int}, (markM t).rcd.B := fun {t} => ⟨⟨by show -9223372036854775808 ≤ (0 : Int); decide, by show (0 : Int) ≤ 9223372036854775807; decide⟩, ⟨by show -9223372036854775808 ≤ (0 : Int); decide, by show (0 : Int) ≤ 9223372036854775807; decide⟩, ⟨by show -9223372036854775808 ≤ (0 : Int); decide, by show (0 : Int) ≤ 9223372036854775807; decide⟩⟩
  have hP1 := passes_c (qA true 1) 10 (recM ⟨4, 10, 7⟩) 10 [⟨0, recM ⟨4, 10, 7⟩⟩] f1 (b0 ⟨by decide, by decide⟩ ⟨by decide, by decide⟩ ⟨by decide, by decide⟩) c1 (by decide) (by decide) (by simp) (by decide) (by rw [fouts_rec (by decide) (by rw [(qA_pass _ _ _).1]; decide), (qA_pass _ _ _).2 (by decide)]; rfl)
  have hP2 := hnil _ _ _ _ (passes_c (qA true 1) 10 (recM ⟨5, 10, 7⟩) 10 [] f1 (b0 ⟨by decide, by decide⟩ ⟨by decide, by decide⟩ ⟨by decide, by decide⟩) c1 (by decide) (by decide) (by simp) (by decide) (by
    unfold fouts
    rw [if_neg (by decide), if_neg (by decide), show (recM ⟨5, 10, 7⟩).rcd = ⟨5, 10, 7⟩ from rfl, (qA_pass _ _ _).1, if_neg (by decide)]))
  have hP3 := hnil _ _ _ _ (passes_c (qA true 1) 10 (recM ⟨4, 9, 7⟩) 10 [] f1 (b0 ⟨by decide, by decide⟩ ⟨by decide, by decide⟩ ⟨by decide, by decide⟩) c1 (by decide) (by decide) (by simp) (by decide) (by
    unfold fouts
    rw [if_neg (by decide), if_pos (by decide), if_pos (by decide)]))
  have hP4 := hnil _ _ _ _ (passes_c (qA true 1) 10 (markM 9) 10 [] f1 bm c1 (by decide) (by decide) (by simp) (by decide) (fouts_nomark (by decide)))
  have hP5 := passes_c (qA true 1) 10 (markM 11) 11 [⟨0, markM 11⟩] f1 bm c1 (by decide) (by decide) (by simp) (by decide) (fouts_mark (by decide))
  have hP6 := hnil _ _ _ _ (passes_c (qA true 1) 9223372036854775807 (recM ⟨1, 1099511627776, 1⟩) 9223372036854775807 [] f1 (b0 ⟨by decide, by decide⟩ ⟨by decide, by decide⟩ ⟨by decide, by decide⟩) c1 (by decide) (by decide) (by simp) (by decide) (by
    unfold fouts
    rw [if_neg (by decide), if_pos (by decide), if_pos (by decide)]))
  have hP7 := passes_c (qA true 1) (-9223372036854775808) (recM ⟨4, -1099511627776, 0⟩) (-9223372036854775808) [⟨0, recM ⟨4, -1099511627776, 0⟩⟩] f1 (b0 ⟨by decide, by decide⟩ ⟨by decide, by decide⟩ ⟨by decide, by decide⟩) c1 (by decide) (by decide) (by simp) (by decide) (by rw [fouts_rec (by decide) (by rw [(qA_pass _ _ _).1]; decide), (qA_pass _ _ _).2 (by decide)]; rfl)
  have hP8 := passes_c (qA false 2) 10 (recM ⟨4, 10, 7⟩) 10 [⟨0, recM ⟨0, 10, 7⟩⟩] f2 (b0 ⟨by decide, by decide⟩ ⟨by decide, by decide⟩ ⟨by decide, by decide⟩) c2 (by decide) (by decide) (by simp) (by decide) (by rw [fouts_rec (by decide) (by rw [(qA_pass _ _ _).1]; decide), (qA_pass _ _ _).2 (by decide)]; rfl)
  have hP9 := passes_c (qA false 2) 10 (recM ⟨5, 9, 7⟩) 10 [⟨1, lateM ⟨5, 9, 7⟩⟩] f2 (b0 ⟨by decide, by decide⟩ ⟨by decide, by decide⟩ ⟨by decide, by decide⟩) c2 (by decide) (by decide) (by simp) (by decide) (fouts_late (by decide) rfl)
  clear zm ok0 oks okf okb a0 k1 k2 k3 k4 k5 k6 j1 j2 jj hnil f1 f2 c1 c2 b0 bm
  unfold sndsV at *
  simp only [List.map_nil, List.map_cons, Snd.cells] at *
  unfold busyT filtT zeroT Tsk.cells sndsV mksV entsV evsV rowsV rcdsV at *
  simp only [List.map_nil, List.map_cons, Snd.cells, intC] at *
  unfold markM recM lateM zeroM Msg.cells Qry.cells countQ qA argL whL nodesV intsV nd Rcd.cells at *
  simp only [List.map_nil, List.map_cons, Node.cells] at *
  refine acall_of (n := 244) (rs := [.tmp 0]) Try.func6 rfl (by kernel_rfl) rfl rfl rfl ?_; simp only [argsE, Nat.reduceAdd]
  repeat (any_goals (first | ((first | refine aops_cons (fun K' h' => ?_) | refine aopsD_cons (fun K' h' => ?_) | refine aopsM_cons (fun K' h' => ?_)); simp only [go_sem, Nat.reduceLT, Nat.reduceLeDiff, Nat.reduceEqDiff, reduceIte, Nat.reduceAdd, Nat.reduceMul, Nat.reduceSub, Int.reduceLT, Int.reduceLE, Int.reduceToNat, Int.reduceNeg, reduceCtorEq, hgs, aopG, bne_self_eq_false, Bool.not_false, beq_self_eq_true]; (try ((first | refine ⟨_, alive29_c, ?_⟩ | refine ⟨_, fun _ => alive29_c, ?_⟩ | refine ⟨_, hN1, ?_⟩ | refine ⟨_, fun _ => hN1, ?_⟩ | refine ⟨_, hN2, ?_⟩ | refine ⟨_, fun _ => hN2, ?_⟩ | refine ⟨_, hN3, ?_⟩ | refine ⟨_, fun _ => hN3, ?_⟩ | refine ⟨_, hK1, ?_⟩ | refine ⟨_, fun _ => hK1, ?_⟩ | refine ⟨_, hK2, ?_⟩ | refine ⟨_, fun _ => hK2, ?_⟩ | refine ⟨_, hK3, ?_⟩ | refine ⟨_, fun _ => hK3, ?_⟩ | refine ⟨_, hK4, ?_⟩ | refine ⟨_, fun _ => hK4, ?_⟩ | refine ⟨_, hK5, ?_⟩ | refine ⟨_, fun _ => hK5, ?_⟩ | refine ⟨_, hK6, ?_⟩ | refine ⟨_, fun _ => hK6, ?_⟩ | refine ⟨_, hJ1, ?_⟩ | refine ⟨_, fun _ => hJ1, ?_⟩ | refine ⟨_, hJ2, ?_⟩ | refine ⟨_, fun _ => hJ2, ?_⟩ | refine ⟨_, hTw, ?_⟩ | refine ⟨_, fun _ => hTw, ?_⟩ | refine ⟨_, hCt, ?_⟩ | refine ⟨_, fun _ => hCt, ?_⟩ | refine ⟨_, hMk _, ?_⟩ | refine ⟨_, fun _ => hMk _, ?_⟩ | refine ⟨_, hRc _ _ _, ?_⟩ | refine ⟨_, fun _ => hRc _ _ _, ?_⟩ | refine ⟨_, hLt _ _ _, ?_⟩ | refine ⟨_, fun _ => hLt _ _ _, ?_⟩ | refine ⟨_, hTo1, ?_⟩ | refine ⟨_, fun _ => hTo1, ?_⟩ | refine ⟨_, hTo2, ?_⟩ | refine ⟨_, fun _ => hTo2, ?_⟩ | refine ⟨_, hTo3, ?_⟩ | refine ⟨_, fun _ => hTo3, ?_⟩ | refine ⟨_, hTo4, ?_⟩ | refine ⟨_, fun _ => hTo4, ?_⟩ | refine ⟨_, hTo5, ?_⟩ | refine ⟨_, fun _ => hTo5, ?_⟩ | refine ⟨_, hTo6, ?_⟩ | refine ⟨_, fun _ => hTo6, ?_⟩ | refine ⟨_, hP1, ?_⟩ | refine ⟨_, fun _ => hP1, ?_⟩ | refine ⟨_, hP2, ?_⟩ | refine ⟨_, fun _ => hP2, ?_⟩ | refine ⟨_, hP3, ?_⟩ | refine ⟨_, fun _ => hP3, ?_⟩ | refine ⟨_, hP4, ?_⟩ | refine ⟨_, fun _ => hP4, ?_⟩ | refine ⟨_, hP5, ?_⟩ | refine ⟨_, fun _ => hP5, ?_⟩ | refine ⟨_, hP6, ?_⟩ | refine ⟨_, fun _ => hP6, ?_⟩ | refine ⟨_, hP7, ?_⟩ | refine ⟨_, fun _ => hP7, ?_⟩ | refine ⟨_, hP8, ?_⟩ | refine ⟨_, fun _ => hP8, ?_⟩ | refine ⟨_, hP9, ?_⟩ | refine ⟨_, fun _ => hP9, ?_⟩); (try simp only [go_sem, Nat.reduceLT, Nat.reduceLeDiff, Nat.reduceEqDiff, reduceIte, Nat.reduceAdd, Nat.reduceMul, Nat.reduceSub, Int.reduceLT, Int.reduceLE, Int.reduceToNat, Int.reduceNeg, reduceCtorEq, hgs, aopG, bne_self_eq_false, Bool.not_false, beq_self_eq_true]))); (try simp (disch := omega) only [wrap_id, getD_map_in, Int.toNat_natCast, aopG, bne_self_eq_false, Bool.not_false, beq_self_eq_true]); (repeat (refine And.intro (by (first | omega | (simp; done) | (simp; omega) | assumption)) ?_)); refine h' _ ?_; clear h' K') | (refine aops_nil (hK _ ?_); clear hK K hgs gs; try simp only [aThen, aBlock]) | ((first | refine AWp.sreg (id := 20) dd6 rfl (fun gs K hgs hK => ?_) | refine AWp.reg (id := 20) dd6 rfl (fun gs K hgs hK => ?_)); replace hgs : gs 1 = some 175 ∧ gs 5 = some 179 ∧ gs 11 = some 185 ∧ gs 17 = some 191 ∧ gs 24 = some 198 ∧ gs 28 = some 202 ∧ gs 32 = some 206 ∧ gs 36 = some 210 ∧ gs 40 = some 214 ∧ gs 44 = some 218 ∧ gs 48 = some 222 ∧ gs 52 = some 226 ∧ gs 56 = some 230 ∧ gs 60 = some 234 ∧ gs 64 = some 238 ∧ gs 67 = some 241 := ⟨hgs 1, hgs 5, hgs 11, hgs 17, hgs 24, hgs 28, hgs 32, hgs 36, hgs 40, hgs 44, hgs 48, hgs 52, hgs 56, hgs 60, hgs 64, hgs 67⟩) | (refine AWp.sreg  dd6 rfl (fun gs K hgs hK => ?_); replace hgs : Nat.succ 0 = 1 := rfl) | refine AWp.seq ?_ | refine ARounds.step ?_ | refine AWp.block ?_ | refine AWp.label ?_ | (refine AWp.ret ?_; try simp only [aThen, aBlock]) | (refine AWp.skip ?_; try simp only [aThen, aBlock]) | (refine AWp.exit ?_; try simp only [aThen, aBlock, Nat.reduceEqDiff, reduceIte]) | (refine AWp.reg  dd6 rfl (fun gs K hgs hK => ?_); replace hgs : Nat.succ 0 = 1 := rfl) | ((first | refine AWp.sregM (id := 7) fo6 (true, false) mo_fact (by kernel_rfl) (by kernel_rfl) (fun gs K hgs hK => ?_) | refine AWp.regM (id := 7) fo6 (true, false) mo_fact (by kernel_rfl) (by kernel_rfl) (fun gs K hgs hK => ?_)); replace hgs : Nat.succ 0 = 1 := rfl) | ((first | refine AWp.sregM (id := 8) fo6 (true, false) mo_fact (by kernel_rfl) (by kernel_rfl) (fun gs K hgs hK => ?_) | refine AWp.regM (id := 8) fo6 (true, false) mo_fact (by kernel_rfl) (by kernel_rfl) (fun gs K hgs hK => ?_)); replace hgs : Nat.succ 0 = 1 := rfl) | (refine aopsM_nil (hK _ ?_); clear hK K hgs gs; simp only [fo6]; simp only [ASt.prune, pruneE, keepB, keepR, Bool.or_false, Bool.or_true, Bool.true_or, Bool.false_or, reduceIte, Bool.or_self, Bool.false_eq_true, aThen, aBlock, Nat.reduceEqDiff]) | (refine aops_consG (fun K' h' => ?_); simp only [go_sem, Nat.reduceLT, Nat.reduceLeDiff, Nat.reduceEqDiff, reduceIte, Nat.reduceAdd, Nat.reduceMul, Nat.reduceSub, Int.reduceLT, Int.reduceLE, Int.reduceToNat, Int.reduceNeg, reduceCtorEq, hgs, aopG, bne_self_eq_false, Bool.not_false, beq_self_eq_true]; (try simp (disch := omega) only [wrap_id, getD_map_in, Int.toNat_natCast, aopG, bne_self_eq_false, Bool.not_false, beq_self_eq_true]); (repeat (refine And.intro (by (first | omega | (simp; done) | (simp; omega) | assumption)) ?_)); refine h' _ ?_; clear h' K') | (refine AWp.cond rfl (fun h => ?_) (fun h => ?_) <;> (try simp only [decide_eq_true_eq, decide_eq_false_iff_not, beq_iff_eq, bne_iff_ne, ne_eq, Bool.not_eq_true', Bool.not_eq_false', beq_eq_false_iff_ne, Bool.true_eq_false, Bool.false_eq_true, Int.not_le, Int.not_lt, Bool.and_eq_true, Bool.and_eq_false_iff, Bool.or_eq_true, Bool.or_eq_false_iff, bne_eq_false_iff_eq, reduceCtorEq] at h) <;> (try first | contradiction | (exfalso; omega) | (exfalso; revert h; simp; done) | (exfalso; revert h; simp; omega)))))
  refine AWp.weaken (fun _ _ _ _ _ hr => hr.freeze []) ?_
  have hgs : Nat.succ 0 = 1 := rfl
  simp only [go_sem, Nat.reduceLT, Nat.reduceLeDiff, Nat.reduceEqDiff, reduceIte, Nat.reduceAdd, Nat.reduceMul, Nat.reduceSub, Int.reduceLT, Int.reduceLE, Int.reduceToNat, Int.reduceNeg, reduceCtorEq, hgs, aopG, bne_self_eq_false, Bool.not_false, beq_self_eq_true]
  clear hgs
  repeat (any_goals (first | ((first | refine aops_cons (fun K' h' => ?_) | refine aopsD_cons (fun K' h' => ?_) | refine aopsM_cons (fun K' h' => ?_)); simp only [go_sem, Nat.reduceLT, Nat.reduceLeDiff, Nat.reduceEqDiff, reduceIte, Nat.reduceAdd, Nat.reduceMul, Nat.reduceSub, Int.reduceLT, Int.reduceLE, Int.reduceToNat, Int.reduceNeg, reduceCtorEq, hgs, aopG, bne_self_eq_false, Bool.not_false, beq_self_eq_true]; (try ((first | refine ⟨_, alive29_c, ?_⟩ | refine ⟨_, fun _ => alive29_c, ?_⟩ | refine ⟨_, hN1, ?_⟩ | refine ⟨_, fun _ => hN1, ?_⟩ | refine ⟨_, hN2, ?_⟩ | refine ⟨_, fun _ => hN2, ?_⟩ | refine ⟨_, hN3, ?_⟩ | refine ⟨_, fun _ => hN3, ?_⟩ | refine ⟨_, hK1, ?_⟩ | refine ⟨_, fun _ => hK1, ?_⟩ | refine ⟨_, hK2, ?_⟩ | refine ⟨_, fun _ => hK2, ?_⟩ | refine ⟨_, hK3, ?_⟩ | refine ⟨_, fun _ => hK3, ?_⟩ | refine ⟨_, hK4, ?_⟩ | refine ⟨_, fun _ => hK4, ?_⟩ | refine ⟨_, hK5, ?_⟩ | refine ⟨_, fun _ => hK5, ?_⟩ | refine ⟨_, hK6, ?_⟩ | refine ⟨_, fun _ => hK6, ?_⟩ | refine ⟨_, hJ1, ?_⟩ | refine ⟨_, fun _ => hJ1, ?_⟩ | refine ⟨_, hJ2, ?_⟩ | refine ⟨_, fun _ => hJ2, ?_⟩ | refine ⟨_, hTw, ?_⟩ | refine ⟨_, fun _ => hTw, ?_⟩ | refine ⟨_, hCt, ?_⟩ | refine ⟨_, fun _ => hCt, ?_⟩ | refine ⟨_, hMk _, ?_⟩ | refine ⟨_, fun _ => hMk _, ?_⟩ | refine ⟨_, hRc _ _ _, ?_⟩ | refine ⟨_, fun _ => hRc _ _ _, ?_⟩ | refine ⟨_, hLt _ _ _, ?_⟩ | refine ⟨_, fun _ => hLt _ _ _, ?_⟩ | refine ⟨_, hTo1, ?_⟩ | refine ⟨_, fun _ => hTo1, ?_⟩ | refine ⟨_, hTo2, ?_⟩ | refine ⟨_, fun _ => hTo2, ?_⟩ | refine ⟨_, hTo3, ?_⟩ | refine ⟨_, fun _ => hTo3, ?_⟩ | refine ⟨_, hTo4, ?_⟩ | refine ⟨_, fun _ => hTo4, ?_⟩ | refine ⟨_, hTo5, ?_⟩ | refine ⟨_, fun _ => hTo5, ?_⟩ | refine ⟨_, hTo6, ?_⟩ | refine ⟨_, fun _ => hTo6, ?_⟩ | refine ⟨_, hP1, ?_⟩ | refine ⟨_, fun _ => hP1, ?_⟩ | refine ⟨_, hP2, ?_⟩ | refine ⟨_, fun _ => hP2, ?_⟩ | refine ⟨_, hP3, ?_⟩ | refine ⟨_, fun _ => hP3, ?_⟩ | refine ⟨_, hP4, ?_⟩ | refine ⟨_, fun _ => hP4, ?_⟩ | refine ⟨_, hP5, ?_⟩ | refine ⟨_, fun _ => hP5, ?_⟩ | refine ⟨_, hP6, ?_⟩ | refine ⟨_, fun _ => hP6, ?_⟩ | refine ⟨_, hP7, ?_⟩ | refine ⟨_, fun _ => hP7, ?_⟩ | refine ⟨_, hP8, ?_⟩ | refine ⟨_, fun _ => hP8, ?_⟩ | refine ⟨_, hP9, ?_⟩ | refine ⟨_, fun _ => hP9, ?_⟩); (try simp only [go_sem, Nat.reduceLT, Nat.reduceLeDiff, Nat.reduceEqDiff, reduceIte, Nat.reduceAdd, Nat.reduceMul, Nat.reduceSub, Int.reduceLT, Int.reduceLE, Int.reduceToNat, Int.reduceNeg, reduceCtorEq, hgs, aopG, bne_self_eq_false, Bool.not_false, beq_self_eq_true]))); (try simp (disch := omega) only [wrap_id, getD_map_in, Int.toNat_natCast, aopG, bne_self_eq_false, Bool.not_false, beq_self_eq_true]); (repeat (refine And.intro (by (first | omega | (simp; done) | (simp; omega) | assumption)) ?_)); refine h' _ ?_; clear h' K') | (refine aops_nil (hK _ ?_); clear hK K hgs gs; try simp only [aThen, aBlock]) | ((first | refine AWp.sreg (id := 20) dd6 rfl (fun gs K hgs hK => ?_) | refine AWp.reg (id := 20) dd6 rfl (fun gs K hgs hK => ?_)); replace hgs : gs 1 = some 175 ∧ gs 5 = some 179 ∧ gs 11 = some 185 ∧ gs 17 = some 191 ∧ gs 24 = some 198 ∧ gs 28 = some 202 ∧ gs 32 = some 206 ∧ gs 36 = some 210 ∧ gs 40 = some 214 ∧ gs 44 = some 218 ∧ gs 48 = some 222 ∧ gs 52 = some 226 ∧ gs 56 = some 230 ∧ gs 60 = some 234 ∧ gs 64 = some 238 ∧ gs 67 = some 241 := ⟨hgs 1, hgs 5, hgs 11, hgs 17, hgs 24, hgs 28, hgs 32, hgs 36, hgs 40, hgs 44, hgs 48, hgs 52, hgs 56, hgs 60, hgs 64, hgs 67⟩) | (refine AWp.sreg  dd6 rfl (fun gs K hgs hK => ?_); replace hgs : Nat.succ 0 = 1 := rfl) | refine AWp.seq ?_ | refine ARounds.step ?_ | refine AWp.block ?_ | refine AWp.label ?_ | (refine AWp.ret ?_; try simp only [aThen, aBlock]) | (refine AWp.skip ?_; try simp only [aThen, aBlock]) | (refine AWp.exit ?_; try simp only [aThen, aBlock, Nat.reduceEqDiff, reduceIte]) | (refine AWp.reg  dd6 rfl (fun gs K hgs hK => ?_); replace hgs : Nat.succ 0 = 1 := rfl) | ((first | refine AWp.sregM (id := 7) fo6 (true, false) mo_fact (by kernel_rfl) (by kernel_rfl) (fun gs K hgs hK => ?_) | refine AWp.regM (id := 7) fo6 (true, false) mo_fact (by kernel_rfl) (by kernel_rfl) (fun gs K hgs hK => ?_)); replace hgs : Nat.succ 0 = 1 := rfl) | ((first | refine AWp.sregM (id := 8) fo6 (true, false) mo_fact (by kernel_rfl) (by kernel_rfl) (fun gs K hgs hK => ?_) | refine AWp.regM (id := 8) fo6 (true, false) mo_fact (by kernel_rfl) (by kernel_rfl) (fun gs K hgs hK => ?_)); replace hgs : Nat.succ 0 = 1 := rfl) | ((first | refine AWp.sregM (id := 11) fo6 (true, false) mo_fact (by kernel_rfl) (by kernel_rfl) (fun gs K hgs hK => ?_) | refine AWp.regM (id := 11) fo6 (true, false) mo_fact (by kernel_rfl) (by kernel_rfl) (fun gs K hgs hK => ?_)); replace hgs : Nat.succ 0 = 1 := rfl) | (refine aopsM_nil (hK _ ?_); clear hK K hgs gs; simp only [fo6]; simp only [ASt.prune, pruneE, keepB, keepR, Bool.or_false, Bool.or_true, Bool.true_or, Bool.false_or, reduceIte, Bool.or_self, Bool.false_eq_true, aThen, aBlock, Nat.reduceEqDiff]) | (refine aops_consG (fun K' h' => ?_); simp only [go_sem, Nat.reduceLT, Nat.reduceLeDiff, Nat.reduceEqDiff, reduceIte, Nat.reduceAdd, Nat.reduceMul, Nat.reduceSub, Int.reduceLT, Int.reduceLE, Int.reduceToNat, Int.reduceNeg, reduceCtorEq, hgs, aopG, bne_self_eq_false, Bool.not_false, beq_self_eq_true]; (try simp (disch := omega) only [wrap_id, getD_map_in, Int.toNat_natCast, aopG, bne_self_eq_false, Bool.not_false, beq_self_eq_true]); (repeat (refine And.intro (by (first | omega | (simp; done) | (simp; omega) | assumption)) ?_)); refine h' _ ?_; clear h' K') | (refine AWp.cond rfl (fun h => ?_) (fun h => ?_) <;> (try simp only [decide_eq_true_eq, decide_eq_false_iff_not, beq_iff_eq, bne_iff_ne, ne_eq, Bool.not_eq_true', Bool.not_eq_false', beq_eq_false_iff_ne, Bool.true_eq_false, Bool.false_eq_true, Int.not_le, Int.not_lt, Bool.and_eq_true, Bool.and_eq_false_iff, Bool.or_eq_true, Bool.or_eq_false_iff, bne_eq_false_iff_eq, reduceCtorEq] at h) <;> (try first | contradiction | (exfalso; omega) | (exfalso; revert h; simp; done) | (exfalso; revert h; simp; omega)))))
  refine AWp.weaken (fun _ _ _ _ _ hr => hr.freeze []) ?_
  have hgs : Nat.succ 0 = 1 := rfl
  simp only [go_sem, Nat.reduceLT, Nat.reduceLeDiff, Nat.reduceEqDiff, reduceIte, Nat.reduceAdd, Nat.reduceMul, Nat.reduceSub, Int.reduceLT, Int.reduceLE, Int.reduceToNat, Int.reduceNeg, reduceCtorEq, hgs, aopG, bne_self_eq_false, Bool.not_false, beq_self_eq_true]
  clear hgs
  repeat (any_goals (first | ((first | refine aops_cons (fun K' h' => ?_) | refine aopsD_cons (fun K' h' => ?_) | refine aopsM_cons (fun K' h' => ?_)); simp only [go_sem, Nat.reduceLT, Nat.reduceLeDiff, Nat.reduceEqDiff, reduceIte, Nat.reduceAdd, Nat.reduceMul, Nat.reduceSub, Int.reduceLT, Int.reduceLE, Int.reduceToNat, Int.reduceNeg, reduceCtorEq, hgs, aopG, bne_self_eq_false, Bool.not_false, beq_self_eq_true]; (try ((first | refine ⟨_, alive29_c, ?_⟩ | refine ⟨_, fun _ => alive29_c, ?_⟩ | refine ⟨_, hN1, ?_⟩ | refine ⟨_, fun _ => hN1, ?_⟩ | refine ⟨_, hN2, ?_⟩ | refine ⟨_, fun _ => hN2, ?_⟩ | refine ⟨_, hN3, ?_⟩ | refine ⟨_, fun _ => hN3, ?_⟩ | refine ⟨_, hK1, ?_⟩ | refine ⟨_, fun _ => hK1, ?_⟩ | refine ⟨_, hK2, ?_⟩ | refine ⟨_, fun _ => hK2, ?_⟩ | refine ⟨_, hK3, ?_⟩ | refine ⟨_, fun _ => hK3, ?_⟩ | refine ⟨_, hK4, ?_⟩ | refine ⟨_, fun _ => hK4, ?_⟩ | refine ⟨_, hK5, ?_⟩ | refine ⟨_, fun _ => hK5, ?_⟩ | refine ⟨_, hK6, ?_⟩ | refine ⟨_, fun _ => hK6, ?_⟩ | refine ⟨_, hJ1, ?_⟩ | refine ⟨_, fun _ => hJ1, ?_⟩ | refine ⟨_, hJ2, ?_⟩ | refine ⟨_, fun _ => hJ2, ?_⟩ | refine ⟨_, hTw, ?_⟩ | refine ⟨_, fun _ => hTw, ?_⟩ | refine ⟨_, hCt, ?_⟩ | refine ⟨_, fun _ => hCt, ?_⟩ | refine ⟨_, hMk _, ?_⟩ | refine ⟨_, fun _ => hMk _, ?_⟩ | refine ⟨_, hRc _ _ _, ?_⟩ | refine ⟨_, fun _ => hRc _ _ _, ?_⟩ | refine ⟨_, hLt _ _ _, ?_⟩ | refine ⟨_, fun _ => hLt _ _ _, ?_⟩ | refine ⟨_, hTo1, ?_⟩ | refine ⟨_, fun _ => hTo1, ?_⟩ | refine ⟨_, hTo2, ?_⟩ | refine ⟨_, fun _ => hTo2, ?_⟩ | refine ⟨_, hTo3, ?_⟩ | refine ⟨_, fun _ => hTo3, ?_⟩ | refine ⟨_, hTo4, ?_⟩ | refine ⟨_, fun _ => hTo4, ?_⟩ | refine ⟨_, hTo5, ?_⟩ | refine ⟨_, fun _ => hTo5, ?_⟩ | refine ⟨_, hTo6, ?_⟩ | refine ⟨_, fun _ => hTo6, ?_⟩ | refine ⟨_, hP1, ?_⟩ | refine ⟨_, fun _ => hP1, ?_⟩ | refine ⟨_, hP2, ?_⟩ | refine ⟨_, fun _ => hP2, ?_⟩ | refine ⟨_, hP3, ?_⟩ | refine ⟨_, fun _ => hP3, ?_⟩ | refine ⟨_, hP4, ?_⟩ | refine ⟨_, fun _ => hP4, ?_⟩ | refine ⟨_, hP5, ?_⟩ | refine ⟨_, fun _ => hP5, ?_⟩ | refine ⟨_, hP6, ?_⟩ | refine ⟨_, fun _ => hP6, ?_⟩ | refine ⟨_, hP7, ?_⟩ | refine ⟨_, fun _ => hP7, ?_⟩ | refine ⟨_, hP8, ?_⟩ | refine ⟨_, fun _ => hP8, ?_⟩ | refine ⟨_, hP9, ?_⟩ | refine ⟨_, fun _ => hP9, ?_⟩); (try simp only [go_sem, Nat.reduceLT, Nat.reduceLeDiff, Nat.reduceEqDiff, reduceIte, Nat.reduceAdd, Nat.reduceMul, Nat.reduceSub, Int.reduceLT, Int.reduceLE, Int.reduceToNat, Int.reduceNeg, reduceCtorEq, hgs, aopG, bne_self_eq_false, Bool.not_false, beq_self_eq_true]))); (try simp (disch := omega) only [wrap_id, getD_map_in, Int.toNat_natCast, aopG, bne_self_eq_false, Bool.not_false, beq_self_eq_true]); (repeat (refine And.intro (by (first | omega | (simp; done) | (simp; omega) | assumption)) ?_)); refine h' _ ?_; clear h' K') | (refine aops_nil (hK _ ?_); clear hK K hgs gs; try simp only [aThen, aBlock]) | ((first | refine AWp.sreg (id := 20) dd6 rfl (fun gs K hgs hK => ?_) | refine AWp.reg (id := 20) dd6 rfl (fun gs K hgs hK => ?_)); replace hgs : gs 1 = some 175 ∧ gs 5 = some 179 ∧ gs 11 = some 185 ∧ gs 17 = some 191 ∧ gs 24 = some 198 ∧ gs 28 = some 202 ∧ gs 32 = some 206 ∧ gs 36 = some 210 ∧ gs 40 = some 214 ∧ gs 44 = some 218 ∧ gs 48 = some 222 ∧ gs 52 = some 226 ∧ gs 56 = some 230 ∧ gs 60 = some 234 ∧ gs 64 = some 238 ∧ gs 67 = some 241 := ⟨hgs 1, hgs 5, hgs 11, hgs 17, hgs 24, hgs 28, hgs 32, hgs 36, hgs 40, hgs 44, hgs 48, hgs 52, hgs 56, hgs 60, hgs 64, hgs 67⟩) | (refine AWp.sreg  dd6 rfl (fun gs K hgs hK => ?_); replace hgs : Nat.succ 0 = 1 := rfl) | refine AWp.seq ?_ | refine ARounds.step ?_ | refine AWp.block ?_ | refine AWp.label ?_ | (refine AWp.ret ?_; try simp only [aThen, aBlock]) | (refine AWp.skip ?_; try simp only [aThen, aBlock]) | (refine AWp.exit ?_; try simp only [aThen, aBlock, Nat.reduceEqDiff, reduceIte]) | (refine AWp.reg  dd6 rfl (fun gs K hgs hK => ?_); replace hgs : Nat.succ 0 = 1 := rfl) | ((first | refine AWp.sregM (id := 7) fo6 (true, false) mo_fact (by kernel_rfl) (by kernel_rfl) (fun gs K hgs hK => ?_) | refine AWp.regM (id := 7) fo6 (true, false) mo_fact (by kernel_rfl) (by kernel_rfl) (fun gs K hgs hK => ?_)); replace hgs : Nat.succ 0 = 1 := rfl) | ((first | refine AWp.sregM (id := 8) fo6 (true, false) mo_fact (by kernel_rfl) (by kernel_rfl) (fun gs K hgs hK => ?_) | refine AWp.regM (id := 8) fo6 (true, false) mo_fact (by kernel_rfl) (by kernel_rfl) (fun gs K hgs hK => ?_)); replace hgs : Nat.succ 0 = 1 := rfl) | ((first | refine AWp.sregM (id := 11) fo6 (true, false) mo_fact (by kernel_rfl) (by kernel_rfl) (fun gs K hgs hK => ?_) | refine AWp.regM (id := 11) fo6 (true, false) mo_fact (by kernel_rfl) (by kernel_rfl) (fun gs K hgs hK => ?_)); replace hgs : Nat.succ 0 = 1 := rfl) | (refine aopsM_nil (hK _ ?_); clear hK K hgs gs; simp only [fo6]; simp only [ASt.prune, pruneE, keepB, keepR, Bool.or_false, Bool.or_true, Bool.true_or, Bool.false_or, reduceIte, Bool.or_self, Bool.false_eq_true, aThen, aBlock, Nat.reduceEqDiff]) | (refine aopsD_consG (fun K' h' => ?_); simp only [go_sem, Nat.reduceLT, Nat.reduceLeDiff, Nat.reduceEqDiff, reduceIte, Nat.reduceAdd, Nat.reduceMul, Nat.reduceSub, Int.reduceLT, Int.reduceLE, Int.reduceToNat, Int.reduceNeg, reduceCtorEq, hgs, aopG, bne_self_eq_false, Bool.not_false, beq_self_eq_true]; (try simp (disch := omega) only [wrap_id, getD_map_in, Int.toNat_natCast, aopG, bne_self_eq_false, Bool.not_false, beq_self_eq_true]); (repeat (refine And.intro (by (first | omega | (simp; done) | (simp; omega) | assumption)) ?_)); refine h' _ ?_; clear h' K') | (refine aopsD_consU (fun K' h' => ?_); simp only [go_sem, Nat.reduceLT, Nat.reduceLeDiff, Nat.reduceEqDiff, reduceIte, Nat.reduceAdd, Nat.reduceMul, Nat.reduceSub, Int.reduceLT, Int.reduceLE, Int.reduceToNat, Int.reduceNeg, reduceCtorEq, hgs, aopG, bne_self_eq_false, Bool.not_false, beq_self_eq_true]; (try simp (disch := omega) only [wrap_id, getD_map_in, Int.toNat_natCast, aopG, bne_self_eq_false, Bool.not_false, beq_self_eq_true]); (repeat (refine And.intro (by (first | omega | (simp; done) | (simp; omega) | assumption)) ?_)); refine h' _ ?_; clear h' K') | ((first | refine AWp.sregD (id := 17) fo6 mo_fact (by kernel_rfl) (fun gs K hgs hK => ?_) | refine AWp.regD (id := 17) fo6 mo_fact (by kernel_rfl) (fun gs K hgs hK => ?_)); replace hgs : gs 6 = some 122 ∧ gs 11 = some 127 ∧ gs 16 = some 132 ∧ gs 21 = some 137 ∧ gs 29 = some 145 ∧ gs 34 = some 150 := ⟨hgs 6, hgs 11, hgs 16, hgs 21, hgs 29, hgs 34⟩) | ((first | refine AWp.sregD (id := 19) fo6 mo_fact (by kernel_rfl) (fun gs K hgs hK => ?_) | refine AWp.regD (id := 19) fo6 mo_fact (by kernel_rfl) (fun gs K hgs hK => ?_)); replace hgs : gs 6 = some 166 := hgs 6) | ((first | refine AWp.sregD  fo6 mo_fact (by kernel_rfl) (fun gs K hgs hK => ?_) | refine AWp.regD  fo6 mo_fact (by kernel_rfl) (fun gs K hgs hK => ?_)); replace hgs : Nat.succ 0 = 1 := rfl) | (refine aopsD_nil (hK _ ?_); clear hK K hgs gs; simp only [fo6]; simp only [ASt.prune, pruneE, keepB, keepR, Bool.or_false, Bool.or_true, Bool.true_or, Bool.false_or, reduceIte, Bool.or_self, Bool.false_eq_true, aThen, aBlock, Nat.reduceEqDiff]) | (refine aops_consG (fun K' h' => ?_); simp only [go_sem, Nat.reduceLT, Nat.reduceLeDiff, Nat.reduceEqDiff, reduceIte, Nat.reduceAdd, Nat.reduceMul, Nat.reduceSub, Int.reduceLT, Int.reduceLE, Int.reduceToNat, Int.reduceNeg, reduceCtorEq, hgs, aopG, bne_self_eq_false, Bool.not_false, beq_self_eq_true]; (try simp (disch := omega) only [wrap_id, getD_map_in, Int.toNat_natCast, aopG, bne_self_eq_false, Bool.not_false, beq_self_eq_true]); (repeat (refine And.intro (by (first | omega | (simp; done) | (simp; omega) | assumption)) ?_)); refine h' _ ?_; clear h' K') | (refine AWp.cond rfl (fun h => ?_) (fun h => ?_) <;> (try simp only [decide_eq_true_eq, decide_eq_false_iff_not, beq_iff_eq, bne_iff_ne, ne_eq, Bool.not_eq_true', Bool.not_eq_false', beq_eq_false_iff_ne, Bool.true_eq_false, Bool.false_eq_true, Int.not_le, Int.not_lt, Bool.and_eq_true, Bool.and_eq_false_iff, Bool.or_eq_true, Bool.or_eq_false_iff, bne_eq_false_iff_eq, reduceCtorEq] at h) <;> (try first | contradiction | (exfalso; omega) | (exfalso; revert h; simp; done) | (exfalso; revert h; simp; omega)))))
  all_goals simp only [Out, outA, outL, resA, go_sem, Nat.reduceLT, Nat.reduceLeDiff, Nat.reduceEqDiff, reduceIte, Nat.reduceAdd, Nat.reduceMul, Nat.reduceSub, Int.reduceLT, Int.reduceLE, Int.reduceToNat, Int.reduceNeg, reduceCtorEq]
  all_goals exact AVle.of_eq (by simp)
theorem fnames_all : ∀ xs, ShpAs Try.prog 8 Try.f6.params.toList xs → ACall Try.prog 6 xs (.lit (.bool true)) := by
  intro xs h
  have hp : Try.f6.params.toList = [] := by kernel_rfl
  rw [hp] at h
  obtain rfl : xs = [] := h
  exact fnames_law
end Go.Proofs.Ytmooelhocanlnaa
