/-
  The law 'FoldsQueries' as it is given: whatever its arguments, it returns true, and each argument reads afterwards as it did before. No condition.
-/
import Derived.Test.YteohklfoggiojaaRows
import Derived.Test.YteohklfoggiojaaFdQryL
import Derived.WalkKit
namespace Go.Proofs.Yteohklfoggiojaa.foldsQueries
open Go.ChangeShapes Go.WideShapes Go.ChangeAt Go.RowKit
set_option maxRecDepth 100000

theorem own : ownKnob Try.prog.godebug = none := by kernel_rfl
theorem spec_fn (H : Type) (ds : List (DataW H)) (h : ds.length = 1) : Rows.foldsQueriesSpec.fn H ds = { results := [.lit (.bool true)], args := ds } := by
  match ds, h with
    | [a0], _ => rfl
theorem lifted (os : Os) (started : os.Started) (H : Type) (enc : TypeId × Value → H) :
    ReturnsInHanded {} Try.checked os 9 .any (Rows.foldsQueriesSpec.pre6 enc Try.prog Try.f9 Rows.foldsQueriesRow.domain false) (Rows.foldsQueriesSpec.post enc Try.prog Try.f9 false true false false) := by
  refine returnsInHanded_of_change (C := Try.checked) own started (by kernel_rfl) Try.func9
    (ChangeSpec.witness6 (enc := enc) (C := Try.checked) false ⟨#[], #[(AL.zeroArg Try.prog (Try.f9.params.getD 0 0))], []⟩ 20 (by kernel_rfl) (by kernel_rfl) (by kernel_rfl) (by kernel_rfl)) ?_
  intro W base args ds gs before hval hW _ _
  exact AL.law_calls (P := Try.prog) (d := 8) (tb := Try.f9.resultTypes.getD 0 0) (by kernel_rfl) rfl (by kernel_rfl) (by kernel_rfl) (fun ds h => spec_fn H ds (by rw [h]; kernel_rfl)) fdqueries_all hval hW
theorem over : Rows.foldsQueriesRow.holds Try.pinned (OpenSpec.ofChange Rows.foldsQueriesSpec) :=
  OpenClaim.holds_of_wide 9 Try.f9 rfl rfl rfl rfl rfl rfl rfl ⟨rfl, rfl, rfl, rfl, rfl⟩ rfl rfl rfl rfl rfl (by kernel_rfl) Try.func9 (by kernel_rfl)
    (of_decide_eq_true (by kernel_rfl)) (by unfold Func.isWrapper; first | (rw [if_pos (by decide +kernel)]; kernel_rfl) | (rw [if_neg (by decide +kernel)]; exact ⟨rfl, rfl⟩))
    (fun os started H enc _ => lifted os started H enc)
theorem proved : Rows.FoldsQueriesSaid := over
#print axioms proved
end Go.Proofs.Yteohklfoggiojaa.foldsQueries
