/-
  The layer as a program, with the contracts of nodes.check and of Sources at hand; the law ClausesNames by a run.
-/
import Derived.Test.YtihlofhnhkhnaaaRunC
import Derived.Test.YtihlofhnhkhnaaaRunQ
namespace Go.Proofs.Ytihlofhnhkhnaaa
open Go.AL Go.RowKit
set_option linter.unusedSimpArgs false
set_option linter.unusedVariables false
set_option maxRecDepth 100000

noncomputable def nO1 (l : List Node) : Option AV := match Nat.ble l.length 1000 with
  | true => checkO l
  | false => none
theorem nO1_sound {l : List Node} {r : AV} (h : nO1 l = some r) : ACall Try.prog 35 [nodesV l] r := by
  unfold nO1 at h
  split at h
  · rename_i hl
    exact checkO_sound (Nat.le_of_ble_eq_true hl) h
  · cases h
noncomputable def nO (g : FuncId) (args : List AV) : Option AV := match Nat.beq g 35 with
  | true => match args with
    | [.ro sz xs] => match Nat.beq sz 5 with
      | true => match decN xs with
        | some l => nO1 l
        | none => none
      | false => none
    | [.lit (.slice none 0 0)] => nO1 []
    | _ => none
  | false => match args with
    | [.lit (.slice none 0 0), .lit (.bool b)] => match Nat.beq g 16 with
      | true => some (.lit (.int .i64 8))
      | false => none
    | args => qO g args
theorem acall_nil2 {P : Program} {f : FuncId} {sz : Nat} {r x : AV} (h : ACall P f [.ro sz [], x] r) : ACall P f [.lit (.slice none 0 0), x] r :=
  ⟨h.1, fun w S us h1 h2 h3 => h.2 w S us h1 h2 fun i a u e1 e2 => by
    cases i with
    | zero =>
      simp at e1; subst e1
      exact AVle.nil sz _ _ _ _ _ _ (h3 0 _ u rfl e2)
    | succ i =>
      cases i with
      | zero => simp at e1; subst e1; exact h3 1 _ u rfl e2
      | succ i => simp at e1⟩
theorem nO_sound : ∀ g args r, nO g args = some r → ACall Try.prog g args r := by
  intro g args r h
  unfold nO at h
  split at h
  · rename_i hg
    have hg := Nat.eq_of_beq_eq_true hg; subst hg
    split at h
    · split at h
      · rename_i hs
        have hs := Nat.eq_of_beq_eq_true hs; subst hs
        split at h
        · rename_i l e
          rw [decN_some e]
          exact nO1_sound h
        · cases h
      · cases h
    · exact acall_nil (sz := 5) (nO1_sound h)
    · cases h
  · split at h
    · split at h
      · rename_i hg
        have hg := Nat.eq_of_beq_eq_true hg; subst hg
        cases h
        exact acall_nil2 (sz := 1) (sources_c [] _ (by simp) (by simp))
      · cases h
    · exact qO_sound _ _ _ h
noncomputable def runN (f : FuncId) (args : List AV) : Option AV := xcall Try.prog popX nO liveD liveF 5000 40 f args
theorem runN_sound {f : FuncId} {args : List AV} {r : AV} (h : runN f args = some r) : ACall Try.prog f args r :=
  xcall_sound mo_fact nm_fact popX_sound nO_sound h
theorem cnames_law : ACall Try.prog 9 [] (.lit (.bool true)) := runN_sound (by kernel_rfl)
theorem cnames_all : ∀ xs, ShpAs Try.prog 8 Try.f9.params.toList xs → ACall Try.prog 9 xs (.lit (.bool true)) := by
  intro xs h
  have hp : Try.f9.params.toList = [] := by kernel_rfl
  rw [hp] at h
  obtain rfl : xs = [] := h
  exact cnames_law
end Go.Proofs.Ytihlofhnhkhnaaa
