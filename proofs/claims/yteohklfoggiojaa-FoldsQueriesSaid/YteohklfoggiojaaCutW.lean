/-
  The walks over the reference's Cut and Part.
-/
import Derived.Test.YteohklfoggiojaaRefP
namespace Go.Proofs.Yteohklfoggiojaa
open Go.AL Go.RowKit
set_option linter.unusedSimpArgs false
set_option linter.unusedVariables false
set_option maxRecDepth 10000
set_option maxHeartbeats 4000000
theorem Ex.kinds : ∀ (e : Ex) (o : Nat), e.wf → ∀ x ∈ e.fl o, 1 ≤ x.kind ∧ x.kind ≤ 19
  | .leaf x, o, hw, y, hy => by simp [Ex.fl] at hy; subst hy; exact ⟨hw.1.k1, hw.1.k2⟩
  | .un x e, o, hw, y, hy => by
    simp only [Ex.fl, List.mem_append, List.mem_singleton] at hy
    rcases hy with hy | rfl
    · exact e.kinds o hw.2.2.2 y hy
    · exact ⟨hw.1.k1, hw.1.k2⟩
  | .bin x e f, o, hw, y, hy => by
    simp only [Ex.fl, List.mem_append, List.mem_singleton] at hy
    rcases hy with (hy | hy) | rfl
    · exact e.kinds o hw.2.2.1 y hy
    · exact f.kinds _ hw.2.2.2 y hy
    · exact ⟨hw.1.k1, hw.1.k2⟩
theorem count_parts {k : Int} (h1 : 1 ≤ k) (h2 : k ≤ 19) : countI k = partsN k := by
  unfold partsN countI
  repeat' split
  all_goals omega
end Go.Proofs.Yteohklfoggiojaa
