/-
  The walks over the reference's Cut and Part.
-/
import Derived.Test.YtmdnhmcmnojlkaaRefP
namespace Go.Proofs.Ytmdnhmcmnojlkaa
open Go.AL Go.RowKit
set_option linter.unusedSimpArgs false
set_option linter.unusedVariables false
set_option maxRecDepth 10000
set_option maxHeartbeats 4000000

theorem Ex.kinds : ∀ (e : Ex) (o : Nat), e.wf → ∀ x ∈ e.fl o, 1 ≤ x.kind ∧ x.kind ≤ 19
  | .leaf x, o, hw, y, hy => by simp [Ex.fl] at hy; subst hy; exact ⟨hw.1.k1, hw.1.k2⟩
  | .un x e, o, hw, y, hy => by
    simp only [Ex.fl, List.mem_append, List.mem_singleton] at hy
    rcases hy with hy | rfl
    · exact e.kinds o hw.2.2.2 y hy
    · exact ⟨hw.1.k1, hw.1.k2⟩
  | .bin x e f, o, hw, y, hy => by
    simp only [Ex.fl, List.mem_append, List.mem_singleton] at hy
    rcases hy with (hy | hy) | rfl
    · exact e.kinds o hw.2.2.1 y hy
    · exact f.kinds _ hw.2.2.2 y hy
    · exact ⟨hw.1.k1, hw.1.k2⟩
theorem count_parts {k : Int} (h1 : 1 ≤ k) (h2 : k ≤ 19) : countI k = partsN k := by
  unfold partsN countI
  repeat' split
  all_goals omega
theorem cutUp_step {l : List Node} {off k : Nat} {y : Node} (hk : off + k < l.length) (hy : l.getD (off + k) default = y) : cutUp l off (k + 1) = cutUp l off k ++ [mvN (-(off : Int)) y] := by
  unfold cutUp
  rw [List.take_add_one, List.map_append, List.getElem?_drop, List.getElem?_eq_getElem hk]
  rw [List.getD_eq_getElem?_getD, List.getElem?_eq_getElem hk] at hy
  rw [show l[off + k] = y from hy]; rfl
theorem cutUp_len {l : List Node} {off k : Nat} (hk : off + k ≤ l.length) : (cutUp l off k).length = k := by simp [cutUp]; omega

end Go.Proofs.Ytmdnhmcmnojlkaa
