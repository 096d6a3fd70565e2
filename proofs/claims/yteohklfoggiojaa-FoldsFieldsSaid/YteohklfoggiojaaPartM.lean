/-
  Parts of expressions, in plain Lean: no program in sight.
-/
import Derived.Test.YteohklfoggiojaaTreeM
namespace Go.Proofs.Yteohklfoggiojaa
open Go.AL
set_option linter.unusedSimpArgs false
set_option linter.unusedVariables false
def mvN (by_ : Int) (x : Node) : Node := ⟨x.kind, x.n, if 0 < partsN x.kind then x.a + by_ else x.a, if 1 < partsN x.kind then x.b + by_ else x.b, x.pos⟩
theorem mv_step {l : List Node} {b : Int} {k : Nat} {y : Node} (hk : k < l.length) (hy : l.getD k default = y) :
    (l.take (k + 1)).map (mvN b) ++ l.drop (k + 1) = ((l.take k).map (mvN b) ++ l.drop k).set k (mvN b y) := by
  have e : l.drop k = y :: l.drop (k + 1) := by
    rw [List.drop_eq_getElem_cons hk]
    rw [List.getD_eq_getElem?_getD, List.getElem?_eq_getElem hk] at hy
    rw [show l[k] = y from hy]
  have e2 : l.take (k + 1) = l.take k ++ [y] := by
    rw [List.take_add_one, List.getElem?_eq_getElem hk]
    rw [List.getD_eq_getElem?_getD, List.getElem?_eq_getElem hk] at hy
    rw [show l[k] = y from hy]; rfl
  rw [e2, e, List.map_append, List.append_assoc, List.set_append_right _ _ (by simp; omega)]
  have : k - ((l.take k).map (mvN b)).length = 0 := by simp; omega
  rw [this]; rfl
theorem mv_cells {l : List Node} {b : Int} {k : Nat} {y : Node} (hk : k < l.length) (hy : l.getD k default = y) :
    ((l.take (k + 1)).map (mvN b) ++ l.drop (k + 1)).map Node.cells = (((l.take k).map (mvN b) ++ l.drop k).map Node.cells).set k (mvN b y).cells := by
  rw [mv_step hk hy, List.map_set]
theorem mv_same {l : List Node} {b : Int} {k : Nat} {y : Node} (hk : k < l.length) (hy : l.getD k default = y) (hm : mvN b y = y) :
    (l.take (k + 1)).map (mvN b) ++ l.drop (k + 1) = (l.take k).map (mvN b) ++ l.drop k := by
  have e : l.drop k = y :: l.drop (k + 1) := by
    rw [List.drop_eq_getElem_cons hk]
    rw [List.getD_eq_getElem?_getD, List.getElem?_eq_getElem hk] at hy
    rw [show l[k] = y from hy]
  have e2 : l.take (k + 1) = l.take k ++ [y] := by
    rw [List.take_add_one, List.getElem?_eq_getElem hk]
    rw [List.getD_eq_getElem?_getD, List.getElem?_eq_getElem hk] at hy
    rw [show l[k] = y from hy]; rfl
  rw [e2, e, List.map_append, List.append_assoc]
  show _ ++ ([mvN b y] ++ _) = _
  rw [hm]; rfl
def cutL (l : List Node) (off size : Nat) : List Node := ((l.drop off).take size).map (mvN (-(off : Int)))
end Go.Proofs.Yteohklfoggiojaa
