/-
  A check of nodes, computed: for the layer as a program.
-/
import Derived.Test.YtihlofhnhkhnaaaCheckW
import Derived.Test.YtihlofhnhkhnaaaPop
namespace Go.Proofs.Ytihlofhnhkhnaaa
open Go.AL Go.RowKit
set_option linter.unusedSimpArgs false
set_option linter.unusedVariables false
set_option maxRecDepth 10000

def decN : List (List AV) → Option (List Node)
  | [] => some []
  | [.lit (.int .u8 k), .lit (.int .i64 n), .lit (.int .i64 a), .lit (.int .i64 b), .lit (.int .i64 p)] :: xs => match decN xs with
    | some l => some (⟨k, n, a, b, p⟩ :: l)
    | none => none
  | _ :: _ => none
theorem decN_some : ∀ {xs : List (List AV)} {l : List Node}, decN xs = some l → xs = l.map Node.cells
  | [], l, h => by simp [decN] at h; subst h; rfl
  | x :: xs, l, h => by
    unfold decN at h
    split at h
    · simp at *
    · rename_i k n a b p xs' he
      simp only [List.cons.injEq] at he
      obtain ⟨rfl, rfl⟩ := he
      split at h
      · rename_i l' e
        cases h
        rw [decN_some e]; rfl
      · cases h
    · cases h
/-- what a check answers, computed -/
def errC (l : List Node) : Int := if 60 < l.length then 4 else match topsF l with
  | some ([t], _) => if 20 < t.depth then 34 else 0
  | _ => 8
def allC (l : List Node) : List Top := match topsF l with
  | some (_, a) => a
  | none => []
theorem Ex.root_dp (e : Ex) (o : Nat) : (e.root o).depth = e.dp := rfl
theorem errL_C (l : List Node) : errL l = errC l := by
  unfold errL errC
  split
  · rfl
  · cases ht : treeO l with
    | some e =>
      rw [(treeO_some ht).tops]
      simp only [Ex.root_dp]
      rfl
    | none =>
      simp only
      split
      · rename_i t a hs
        have := tops_no ht hs
        simp at this
      · rfl
theorem allC_tops {l : List Node} {e : Ex} (h : IsEx l e) : allC l = e.tops 0 := by unfold allC; rw [h.tops]
noncomputable def checkO (l : List Node) : Option AV := match Int.decEq (errC l) 0 with
  | isTrue _ => frcLL ((allC l).map Top.cells) fun xs => some (.tup [.ro 3 xs, .lit (.int .i64 0)])
  | isFalse _ => frcI (errC l) fun e => some (.tup [.any, .lit (.int .i64 e)])
theorem checkO_sound {l : List Node} {r : AV} (hl : l.length ≤ 1000) (h : checkO l = some r) : ACall Try.prog 35 [nodesV l] r := by
  unfold checkO at h
  split at h
  · rename_i e0 _
    rw [frcLL_eq] at h
    cases h
    have h0 : errL l = 0 := by rw [errL_C]; exact e0
    obtain ⟨e, ht, hx, _⟩ := errL_ok h0
    have := check_ok hl h0 ht
    rw [allC_tops hx]
    exact this
  · rename_i e0 _
    rw [frcI_eq] at h
    cases h
    have h0 : errL l ≠ 0 := by rw [errL_C]; exact e0
    have := check_bad hl h0
    rw [errL_C] at this
    exact this
/-- a nil slice is an empty list -/
theorem acall_nil {P : Program} {f : FuncId} {sz : Nat} {r : AV} (h : ACall P f [.ro sz []] r) : ACall P f [.lit (.slice none 0 0)] r :=
  ⟨h.1, fun w S us h1 h2 h3 => h.2 w S us h1 h2 fun i a u e1 e2 => by
    cases i with
    | succ i => simp at e1
    | zero =>
      simp at e1; subst e1
      exact AVle.nil sz _ _ _ _ _ _ (h3 0 _ u rfl e2)⟩
end Go.Proofs.Ytihlofhnhkhnaaa
