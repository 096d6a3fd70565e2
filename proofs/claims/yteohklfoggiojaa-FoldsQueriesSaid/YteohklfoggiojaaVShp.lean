/-
  Shapes of lists of nodes, and of records, with their bounds.
-/
import Derived.Test.YteohklfoggiojaaEvalW
import Derived.Test.YteohklfoggiojaaAbsS
namespace Go.Proofs.Yteohklfoggiojaa
open Go.AL Go.RowKit
set_option linter.unusedSimpArgs false
set_option linter.unusedVariables false
set_option maxRecDepth 10000
theorem list_ofB {α : Type} {f : α → List AV} {p : α → Prop} : ∀ {xs : List (List AV)}, (∀ x ∈ xs, ∃ e, x = f e ∧ p e) → ∃ l : List α, xs = l.map f ∧ ∀ e ∈ l, p e
  | [], _ => ⟨[], rfl, fun e h => by cases h⟩
  | x :: xs, h => by
    obtain ⟨e, h1, h2⟩ := h x (by simp)
    obtain ⟨l, h3, h4⟩ := list_ofB (xs := xs) fun y hy => h y (by simp [hy])
    refine ⟨e :: l, by simp [h1, h3], fun y hy => ?_⟩
    rcases List.mem_cons.1 hy with rfl | hy
    · exact h2
    · exact h4 y hy
theorem nodeB_shape {x : List AV} {d : Nat} (h : Shp Try.prog (d + 2) 50 x) : ∃ e : Node, x = e.cells ∧ i64B e.n := by
  obtain ⟨a, r, rfl, ha, h1⟩ := shp_st (ts := [5, 2, 3, 3, 3]) (by kernel_rfl) h
  obtain ⟨b, r, rfl, hb, h2⟩ := h1
  obtain ⟨c, r, rfl, hc, h3⟩ := h2
  obtain ⟨d, r, rfl, hd, h4⟩ := h3
  obtain ⟨e, r, rfl, he, h5⟩ := h4
  obtain rfl : r = [] := h5
  obtain ⟨xk, rfl, w1⟩ := shp_in (k := .u8) (by kernel_rfl) ha
  obtain ⟨xn, rfl, w2⟩ := shp_in (k := .i64) (by kernel_rfl) hb
  obtain ⟨xa, rfl, w3⟩ := shp_in (k := .i64) (by kernel_rfl) hc
  obtain ⟨xb, rfl, w4⟩ := shp_in (k := .i64) (by kernel_rfl) hd
  obtain ⟨xp, rfl, w5⟩ := shp_in (k := .i64) (by kernel_rfl) he
  exact ⟨⟨xk, xn, xa, xb, xp⟩, rfl, wf_i64 w2⟩
theorem shNodes {cs : List AV} {d : Nat} (h : Shp Try.prog (d + 3) 22 cs) : ∃ l : List Node, cs = [nodesV l] ∧ l.length ≤ maxLen ∧ nodesB l := by
  obtain ⟨xs, e, hm, hx⟩ := shp_sl (q := (50, 5)) (by kernel_rfl) h
  obtain ⟨l, rfl, hp⟩ := list_ofB (f := Node.cells) fun x hx' => nodeB_shape (hx x hx')
  exact ⟨l, e, by simpa using hm, hp⟩
theorem nodesB_shape {a : AV} (h : ShpA Try.prog 8 22 a) : ∃ l : List Node, a = nodesV l ∧ l.length ≤ maxLen ∧ nodesB l := by
  obtain ⟨l, e, hm, hp⟩ := shNodes (shpA_one (by kernel_rfl) h)
  exact ⟨l, by simpa using e, hm, hp⟩
theorem recB_shape {a : AV} (h : ShpA Try.prog 8 35 a) : ∃ r : Rcd, a = .agg r.cells ∧ r.B := by
  obtain ⟨cs, rfl, hs⟩ := shpA_st (ts := [2, 2, 2]) (by kernel_rfl) h
  obtain ⟨a, r, rfl, ha, g1⟩ := hs
  obtain ⟨b, r, rfl, hb, g2⟩ := g1
  obtain ⟨c, r, rfl, hc, g3⟩ := g2
  obtain rfl : r = [] := g3
  obtain ⟨x, rfl, w1⟩ := shp_in (k := .i64) (by kernel_rfl) ha
  obtain ⟨y, rfl, w2⟩ := shp_in (k := .i64) (by kernel_rfl) hb
  obtain ⟨z, rfl, w3⟩ := shp_in (k := .i64) (by kernel_rfl) hc
  exact ⟨⟨x, y, z⟩, rfl, wf_i64 w1, wf_i64 w2, wf_i64 w3⟩
end Go.Proofs.Yteohklfoggiojaa
