/-
  The law 'TopParts' as it is given: whatever its arguments, it returns true, and each argument reads afterwards as it did before. No condition.
-/
import Derived.Test.YtjeehkdepoiegaaGreatRows
import Derived.Test.YtjeehkdepoiegaaGreatPtsW
import Derived.WalkKit
namespace Go.Proofs.YtjeehkdepoiegaaGreat.topParts
open Go.ChangeShapes Go.WideShapes Go.ChangeAt Go.RowKit
set_option maxRecDepth 100000
theorem own : ownKnob Tryz.prog.godebug = none := by kernel_rfl
theorem spec_fn (H : Type) (ds : List (DataW H)) (h : ds.length = 3) : Rows.topPartsSpec.fn H ds = { results := [.lit (.bool true)], args := ds } := by
  match ds, h with
    | [a0, a1, a2], _ => rfl
theorem lifted (os : Os) (started : os.Started) (H : Type) (enc : TypeId × Value → H) :
    ReturnsInHanded {} Tryz.checked os 3 .any (Rows.topPartsSpec.pre6 enc Tryz.prog Tryz.f3 Rows.topPartsRow.domain false) (Rows.topPartsSpec.post enc Tryz.prog Tryz.f3 false true false false) := by
  refine returnsInHanded_of_change (C := Tryz.checked) own started (by kernel_rfl) Tryz.func3
    (ChangeSpec.witness6 (enc := enc) (C := Tryz.checked) false ⟨#[], #[(AL.zeroArg Tryz.prog (Tryz.f3.params.getD 0 0)), (AL.zeroArg Tryz.prog (Tryz.f3.params.getD 1 0)), (AL.zeroArg Tryz.prog (Tryz.f3.params.getD 2 0))], []⟩ 20 (by kernel_rfl) (by kernel_rfl) (by kernel_rfl) (by kernel_rfl)) ?_
  intro W base args ds gs before hval hW _ _
  exact AL.law_calls (P := Tryz.prog) (d := 8) (tb := Tryz.f3.resultTypes.getD 0 0) (by kernel_rfl) rfl (by kernel_rfl) (by kernel_rfl) (fun ds h => spec_fn H ds (by rw [h]; kernel_rfl)) parts_all hval hW
theorem over : Rows.topPartsRow.holds Tryz.pinned (OpenSpec.ofChange Rows.topPartsSpec) :=
  OpenClaim.holds_of_wide 3 Tryz.f3 rfl rfl rfl rfl rfl rfl rfl ⟨rfl, rfl, rfl, rfl, rfl⟩ rfl rfl rfl rfl rfl (by kernel_rfl) Tryz.func3 (by kernel_rfl)
    (of_decide_eq_true (by kernel_rfl)) (by unfold Func.isWrapper; first | (rw [if_pos (by decide +kernel)]; kernel_rfl) | (rw [if_neg (by decide +kernel)]; exact ⟨rfl, rfl⟩))
    (fun os started H enc _ => lifted os started H enc)
theorem proved : Rows.TopPartsSaid := over
#print axioms proved
end Go.Proofs.YtjeehkdepoiegaaGreat.topParts
