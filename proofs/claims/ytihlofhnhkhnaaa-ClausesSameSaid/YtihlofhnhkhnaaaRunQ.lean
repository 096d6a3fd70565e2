/-
  The layer as a program, over this seat's program, with the contract of Sources at hand; the chapter's examples by a run.
-/
import Derived.Test.YtihlofhnhkhnaaaQryW
import Derived.Test.YtihlofhnhkhnaaaPop
namespace Go.Proofs.Ytihlofhnhkhnaaa
open Go.AL Go.RowKit
set_option linter.unusedSimpArgs false
set_option linter.unusedVariables false
set_option maxRecDepth 10000

def decI : List (List AV) → Option (List Int)
  | [] => some []
  | [.lit (.int .i64 n)] :: xs => match decI xs with
    | some l => some (n :: l)
    | none => none
  | _ :: _ => none
theorem decI_some : ∀ {xs : List (List AV)} {l : List Int}, decI xs = some l → xs = l.map fun x => [.lit (.int .i64 x)]
  | [], l, h => by simp [decI] at h; subst h; rfl
  | x :: xs, l, h => by
    unfold decI at h
    split at h
    · simp at *
    · rename_i n xs' he
      simp only [List.cons.injEq] at he
      obtain ⟨rfl, rfl⟩ := he
      split at h
      · rename_i l' e
        cases h
        rw [decI_some e]; rfl
      · cases h
    · cases h
def inI (l : List Int) : Bool := l.all fun x => decide (-9223372036854775808 ≤ x) && decide (x ≤ 9223372036854775807)
noncomputable def qO (g : FuncId) (args : List AV) : Option AV := match args with
  | [.ro sz xs, .lit (.bool b)] => match Nat.beq sz 1 with
    | true => match Nat.beq g 16 with
      | true => match decI xs with
        | some l => match Nat.ble l.length 1000 && inI l with
          | true => frcI (srcE l b) fun e => some (.lit (.int .i64 e))
          | false => none
        | none => none
      | false => none
    | false => none
  | _ => none
theorem qO_sound : ∀ g args r, qO g args = some r → ACall Try.prog g args r := by
  intro g args r h
  unfold qO at h
  split at h
  · split at h
    · rename_i hs
      have hs := Nat.eq_of_beq_eq_true hs; subst hs
      split at h
      · rename_i hg
        have hg := Nat.eq_of_beq_eq_true hg; subst hg
        split at h
        · rename_i l e
          split at h
          · rename_i hl
            simp only [Bool.and_eq_true] at hl
            have h1 := Nat.le_of_ble_eq_true hl.1
            rw [frcI_eq] at h
            cases h
            rw [decI_some e]
            refine sources_c l _ h1 fun x hx => ?_
            have := List.all_eq_true.1 hl.2 x hx
            simpa using this
          · cases h
        · cases h
      · cases h
    · cases h
  · cases h
noncomputable def runQ (f : FuncId) (args : List AV) : Option AV := xcall Try.prog popX qO liveD liveF 5000 40 f args
theorem runQ_sound {f : FuncId} {args : List AV} {r : AV} (h : runQ f args = some r) : ACall Try.prog f args r :=
  xcall_sound mo_fact nm_fact popX_sound qO_sound h
theorem alive8_c : ACall Try.prog 18 [] (.lit (.bool true)) := runQ_sound (by kernel_rfl)
end Go.Proofs.Ytihlofhnhkhnaaa
