/-
  The law 'FoldsRight' as it is given: whatever its arguments, it returns true, and each argument reads afterwards as it did before. No condition.
-/
import Derived.Test.YteohklfoggiojaaRows
import Derived.Test.YteohklfoggiojaaFdRigL
import Derived.WalkKit
namespace Go.Proofs.Yteohklfoggiojaa.foldsRight
open Go.ChangeShapes Go.WideShapes Go.ChangeAt Go.RowKit
set_option maxRecDepth 100000

theorem own : ownKnob Try.prog.godebug = none := by kernel_rfl
theorem spec_fn (H : Type) (ds : List (DataW H)) (h : ds.length = 2) : Rows.foldsRightSpec.fn H ds = { results := [.lit (.bool true)], args := ds } := by
  match ds, h with
    | [a0, a1], _ => rfl
theorem lifted (os : Os) (started : os.Started) (H : Type) (enc : TypeId × Value → H) :
    ReturnsInHanded {} Try.checked os 10 .any (Rows.foldsRightSpec.pre6 enc Try.prog Try.f10 Rows.foldsRightRow.domain false) (Rows.foldsRightSpec.post enc Try.prog Try.f10 false true false false) := by
  refine returnsInHanded_of_change (C := Try.checked) own started (by kernel_rfl) Try.func10
    (ChangeSpec.witness6 (enc := enc) (C := Try.checked) false ⟨#[], #[(AL.zeroArg Try.prog (Try.f10.params.getD 0 0)), (AL.zeroArg Try.prog (Try.f10.params.getD 1 0))], []⟩ 20 (by kernel_rfl) (by kernel_rfl) (by kernel_rfl) (by kernel_rfl)) ?_
  intro W base args ds gs before hval hW _ _
  exact AL.law_calls (P := Try.prog) (d := 8) (tb := Try.f10.resultTypes.getD 0 0) (by kernel_rfl) rfl (by kernel_rfl) (by kernel_rfl) (fun ds h => spec_fn H ds (by rw [h]; kernel_rfl)) fdright_all hval hW
theorem over : Rows.foldsRightRow.holds Try.pinned (OpenSpec.ofChange Rows.foldsRightSpec) :=
  OpenClaim.holds_of_wide 10 Try.f10 rfl rfl rfl rfl rfl rfl rfl ⟨rfl, rfl, rfl, rfl, rfl⟩ rfl rfl rfl rfl rfl (by kernel_rfl) Try.func10 (by kernel_rfl)
    (of_decide_eq_true (by kernel_rfl)) (by unfold Func.isWrapper; first | (rw [if_pos (by decide +kernel)]; kernel_rfl) | (rw [if_neg (by decide +kernel)]; exact ⟨rfl, rfl⟩))
    (fun os started H enc _ => lifted os started H enc)
theorem proved : Rows.FoldsRightSaid := over
#print axioms proved
end Go.Proofs.Yteohklfoggiojaa.foldsRight
