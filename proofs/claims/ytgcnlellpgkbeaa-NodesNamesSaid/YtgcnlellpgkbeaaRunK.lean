/-
  The layer as a program, over this seat's program, with the contracts of check, moved and Of at hand; the examples of the chapters by runs.
-/
import Derived.Test.YtgcnlellpgkbeaaKindX
import Derived.Test.YtgcnlellpgkbeaaMadeW
import Derived.Test.YtgcnlellpgkbeaaPop
namespace Go.Proofs.Ytgcnlellpgkbeaa
open Go.AL Go.RowKit
set_option linter.unusedSimpArgs false
set_option linter.unusedVariables false
set_option maxRecDepth 10000

def decN : List (List AV) → Option (List Node)
  | [] => some []
  | [.lit (.int .u8 k), .lit (.int .i64 n), .lit (.int .i64 a), .lit (.int .i64 b), .lit (.int .i64 p)] :: xs => match decN xs with
    | some l => some (⟨k, n, a, b, p⟩ :: l)
    | none => none
  | _ :: _ => none
theorem decN_some : ∀ {xs : List (List AV)} {l : List Node}, decN xs = some l → xs = l.map Node.cells
  | [], l, h => by simp [decN] at h; subst h; rfl
  | x :: xs, l, h => by
    unfold decN at h
    split at h
    · simp at *
    · rename_i k n a b p xs' he
      simp only [List.cons.injEq] at he
      obtain ⟨rfl, rfl⟩ := he
      split at h
      · rename_i l' e
        cases h
        rw [decN_some e]; rfl
      · cases h
    · cases h
/-- what a check answers, computed -/
def errC (l : List Node) : Int := if 60 < l.length then 4 else match topsF l with
  | some ([t], _) => if 20 < t.depth then 34 else 0
  | _ => 8
def allC (l : List Node) : List Top := match topsF l with
  | some (_, a) => a
  | none => []
theorem Ex.root_dp (e : Ex) (o : Nat) : (e.root o).depth = e.dp := rfl
theorem errL_C (l : List Node) : errL l = errC l := by
  unfold errL errC
  split
  · rfl
  · cases ht : treeO l with
    | some e =>
      rw [(treeO_some ht).tops]
      simp only [Ex.root_dp]
      rfl
    | none =>
      simp only
      split
      · rename_i t a hs
        have := tops_no ht hs
        simp at this
      · rfl
theorem allC_tops {l : List Node} {e : Ex} (h : IsEx l e) : allC l = e.tops 0 := by unfold allC; rw [h.tops]
noncomputable def checkO (l : List Node) : Option AV := match Int.decEq (errC l) 0 with
  | isTrue _ => frcLL ((allC l).map Top.cells) fun xs => some (.tup [.ro 3 xs, .lit (.int .i64 0)])
  | isFalse _ => frcI (errC l) fun e => some (.tup [.any, .lit (.int .i64 e)])
theorem checkO_sound {l : List Node} {r : AV} (hl : l.length ≤ 1000) (h : checkO l = some r) : ACall Try.prog 44 [nodesV l] r := by
  unfold checkO at h
  split at h
  · rename_i e0 _
    rw [frcLL_eq] at h
    cases h
    have h0 : errL l = 0 := by rw [errL_C]; exact e0
    obtain ⟨e, ht, hx, _⟩ := errL_ok h0
    have := check_ok hl h0 ht
    rw [allC_tops hx]
    exact this
  · rename_i e0 _
    rw [frcI_eq] at h
    cases h
    have h0 : errL l ≠ 0 := by rw [errL_C]; exact e0
    have := check_bad hl h0
    rw [errL_C] at this
    exact this
noncomputable def ofO (l : List Node) : Option AV := match Int.decEq (errC l) 0 with
  | isTrue _ => frcN (wrongL l) fun w => match Nat.blt w l.length with
    | true => some (.tup [.lit (.bool false), .lit (.int .i64 (.ofNat w)), .lit (.int .i64 42)])
    | false => frcB (givesB (l.getD (l.length - 1) default).kind) fun b => frcI ((l.length : Int) - 1) fun n => some (.tup [.lit (.bool b), .lit (.int .i64 n), .lit (.int .i64 0)])
  | isFalse _ => frcI (errC l) fun e => some (.tup [.lit (.bool false), .lit (.int .i64 0), .lit (.int .i64 e)])
theorem ofO_sound {l : List Node} {r : AV} (hl : l.length ≤ 1000) (h : ofO l = some r) : ACall Try.prog 29 [nodesV l] r := by
  have hc := kOf_c l hl
  have hwl := wrongL_le l
  unfold ofO at h
  split at h
  · rename_i e0 _
    have h0 : errL l = 0 := by rw [errL_C]; exact e0
    rw [frcN_eq] at h
    split at h
    · rename_i hw
      have hw : wrongL l < l.length := Nat.le_of_ble_eq_true hw
      cases h
      rw [(ofE_type h0 hw).1, (ofE_type h0 hw).2.1, (ofE_type h0 hw).2.2] at hc
      exact hc
    · rename_i hw
      have hw : wrongL l = l.length := by
        have : ¬ wrongL l < l.length := fun h2 => by
          have : Nat.blt (wrongL l) l.length = true := Nat.ble_eq_true_of_le h2
          rw [hw] at this; cases this
        omega
      rw [frcB_eq, frcI_eq] at h
      cases h
      rw [(ofE_ok h0 hw).1, (ofE_ok h0 hw).2.1, (ofE_ok h0 hw).2.2] at hc
      exact hc
  · rename_i e0 _
    have h0 : errL l ≠ 0 := by rw [errL_C]; exact e0
    rw [frcI_eq] at h
    cases h
    rw [(ofE_bad h0).1, (ofE_bad h0).2.1, (ofE_bad h0).2.2, errL_C] at hc
    exact hc
def bdN (l : List Node) : Bool := l.all fun x => decide (-2000 ≤ x.a) && decide (x.a ≤ 2000) && decide (-2000 ≤ x.b) && decide (x.b ≤ 2000)
noncomputable def movedO (l : List Node) (b : Int) : Option AV := match l with
  | [] => none
  | x :: l' => match bdN (x :: l') && decide (-2000 ≤ b) && decide (b ≤ 2000) with
    | true => frcLL (((x :: l').map (mvN b)).map Node.cells) fun xs => some (.ro 5 xs)
    | false => none
theorem movedO_sound {l : List Node} {b : Int} {r : AV} (hl : l.length ≤ 1000) (h : movedO l b = some r) : ACall Try.prog 45 [nodesV l, .lit (.int .i64 b)] r := by
  unfold movedO at h
  split at h
  · cases h
  · rename_i x l'
    split at h
    · rename_i hb
      rw [frcLL_eq] at h
      cases h
      simp only [Bool.and_eq_true, decide_eq_true_eq, bdN, List.all_eq_true] at hb
      exact moved_c x l' b (by simp at hl; omega) hb.1.2 hb.2 fun y hy => by have := hb.1.1 y hy; omega
    · cases h
/-- a nil slice is an empty list -/
theorem acall_nil {P : Program} {f : FuncId} {sz : Nat} {r : AV} (h : ACall P f [.ro sz []] r) : ACall P f [.lit (.slice none 0 0)] r :=
  ⟨h.1, fun w S us h1 h2 h3 => h.2 w S us h1 h2 fun i a u e1 e2 => by
    cases i with
    | succ i => simp at e1
    | zero =>
      simp at e1; subst e1
      exact AVle.nil sz _ _ _ _ _ _ (h3 0 _ u rfl e2)⟩
noncomputable def kO1 (g : FuncId) (l : List Node) : Option AV := match Nat.ble l.length 1000 with
  | true => match Nat.beq g 44 with
    | true => checkO l
    | false => match Nat.beq g 29 with
      | true => ofO l
      | false => none
  | false => none
theorem kO1_sound {g : FuncId} {l : List Node} {r : AV} (h : kO1 g l = some r) : ACall Try.prog g [nodesV l] r := by
  unfold kO1 at h
  split at h
  · rename_i hl
    have hl := Nat.le_of_ble_eq_true hl
    split at h
    · rename_i hg
      have hg := Nat.eq_of_beq_eq_true hg; subst hg
      exact checkO_sound hl h
    · split at h
      · rename_i hg
        have hg := Nat.eq_of_beq_eq_true hg; subst hg
        exact ofO_sound hl h
      · cases h
  · cases h
noncomputable def kO (g : FuncId) (args : List AV) : Option AV := match args with
  | [.ro sz xs] => match Nat.beq sz 5 with
    | true => match decN xs with
      | some l => kO1 g l
      | none => none
    | false => none
  | [.lit (.slice none 0 0)] => kO1 g []
  | [.ro sz xs, .lit (.int .i64 b)] => match Nat.beq sz 5 with
    | true => match Nat.beq g 45 with
      | true => match decN xs with
        | some l => match Nat.ble l.length 1000 with
          | true => movedO l b
          | false => none
        | none => none
      | false => none
    | false => none
  | _ => none
theorem kO_sound : ∀ g args r, kO g args = some r → ACall Try.prog g args r := by
  intro g args r h
  unfold kO at h
  split at h
  · split at h
    · rename_i hs
      have hs := Nat.eq_of_beq_eq_true hs; subst hs
      split at h
      · rename_i l e
        rw [decN_some e]
        exact kO1_sound h
      · cases h
    · cases h
  · exact acall_nil (sz := 5) (kO1_sound h)
  · split at h
    · rename_i hs
      have hs := Nat.eq_of_beq_eq_true hs; subst hs
      split at h
      · rename_i hg
        have hg := Nat.eq_of_beq_eq_true hg; subst hg
        split at h
        · rename_i l e
          split at h
          · rename_i hl
            have hl := Nat.le_of_ble_eq_true hl
            rw [decN_some e]
            exact movedO_sound hl h
          · cases h
        · cases h
      · cases h
    · cases h
  · cases h
noncomputable def runK (f : FuncId) (args : List AV) : Option AV := xcall Try.prog popX kO liveD liveF 5000 40 f args
theorem runK_sound {f : FuncId} {args : List AV} {r : AV} (h : runK f args = some r) : ACall Try.prog f args r :=
  xcall_sound mo_fact nm_fact popX_sound kO_sound h
theorem alive6_c : ACall Try.prog 28 [] (.lit (.bool true)) := runK_sound (by kernel_rfl)
end Go.Proofs.Ytgcnlellpgkbeaa
