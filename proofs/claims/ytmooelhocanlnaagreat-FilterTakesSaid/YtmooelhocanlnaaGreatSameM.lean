/-
  Expressions that are the same but for where they stand. Plain Lean: no program in sight.
-/
import Derived.Test.YtmooelhocanlnaaGreatSubM
namespace Go.Proofs.YtmooelhocanlnaaGreat
open Go.AL
set_option linter.unusedSimpArgs false
set_option linter.unusedVariables false
theorem Ex.hds : ∀ (e : Ex) (o : Nat), e.wf → ∀ x ∈ e.fl o, x.hd.ok
  | .leaf x, o, hw, y, hy => by simp [Ex.fl] at hy; subst hy; exact hw.1
  | .un x e, o, hw, y, hy => by
    simp only [Ex.fl, List.mem_append, List.mem_singleton] at hy
    rcases hy with hy | rfl
    · exact e.hds o hw.2.2.2 y hy
    · exact hw.1
  | .bin x e f, o, hw, y, hy => by
    simp only [Ex.fl, List.mem_append, List.mem_singleton] at hy
    rcases hy with (hy | hy) | rfl
    · exact e.hds o hw.2.2.1 y hy
    · exact f.hds _ hw.2.2.2 y hy
    · exact hw.1
theorem IsEx.hd {l : List Node} {e : Ex} (h : IsEx l e) : ∀ x ∈ l, x.hd.ok := fun x hx => e.hds 0 h.1 x (h.2 ▸ hx)
end Go.Proofs.YtmooelhocanlnaaGreat
