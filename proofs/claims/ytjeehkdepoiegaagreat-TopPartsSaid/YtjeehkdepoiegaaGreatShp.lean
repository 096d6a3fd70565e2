/-
  What the arguments of the law look like: queries, lists of nodes and numbers.
-/
import Derived.Test.YtjeehkdepoiegaaGreatEvalW
import Derived.Test.YtjeehkdepoiegaaGreatAbsS
import Derived.Test.YtjeehkdepoiegaaGreatQryW
namespace Go.Proofs.YtjeehkdepoiegaaGreat
open Go.AL Go.RowKit
set_option linter.unusedSimpArgs false
set_option linter.unusedVariables false
set_option maxRecDepth 10000
theorem list_ofB {α : Type} {f : α → List AV} {p : α → Prop} : ∀ {xs : List (List AV)}, (∀ x ∈ xs, ∃ e, x = f e ∧ p e) → ∃ l : List α, xs = l.map f ∧ ∀ e ∈ l, p e
  | [], _ => ⟨[], rfl, fun e h => by cases h⟩
  | x :: xs, h => by
    obtain ⟨e, h1, h2⟩ := h x (by simp)
    obtain ⟨l, h3, h4⟩ := list_ofB (xs := xs) fun y hy => h y (by simp [hy])
    refine ⟨e :: l, by simp [h1, h3], fun y hy => ?_⟩
    rcases List.mem_cons.1 hy with rfl | hy
    · exact h2
    · exact h4 y hy
theorem nodeB_shape {x : List AV} {d : Nat} (h : Shp Tryz.prog (d + 2) 126 x) : ∃ e : Node, x = e.cells ∧ i64B e.n := by
  obtain ⟨a, r, rfl, ha, h1⟩ := shp_st (ts := [5, 2, 3, 3, 3]) (by kernel_rfl) h
  obtain ⟨b, r, rfl, hb, h2⟩ := h1
  obtain ⟨c, r, rfl, hc, h3⟩ := h2
  obtain ⟨d, r, rfl, hd, h4⟩ := h3
  obtain ⟨e, r, rfl, he, h5⟩ := h4
  obtain rfl : r = [] := h5
  obtain ⟨xk, rfl, w1⟩ := shp_in (k := .u8) (by kernel_rfl) ha
  obtain ⟨xn, rfl, w2⟩ := shp_in (k := .i64) (by kernel_rfl) hb
  obtain ⟨xa, rfl, w3⟩ := shp_in (k := .i64) (by kernel_rfl) hc
  obtain ⟨xb, rfl, w4⟩ := shp_in (k := .i64) (by kernel_rfl) hd
  obtain ⟨xp, rfl, w5⟩ := shp_in (k := .i64) (by kernel_rfl) he
  exact ⟨⟨xk, xn, xa, xb, xp⟩, rfl, wf_i64 w2⟩
theorem shNodes {cs : List AV} {d : Nat} (h : Shp Tryz.prog (d + 3) 22 cs) : ∃ l : List Node, cs = [nodesV l] ∧ l.length ≤ maxLen ∧ nodesB l := by
  obtain ⟨xs, e, hm, hx⟩ := shp_sl (q := (126, 5)) (by kernel_rfl) h
  obtain ⟨l, rfl, hp⟩ := list_ofB (f := Node.cells) fun x hx' => nodeB_shape (hx x hx')
  exact ⟨l, e, by simpa using hm, hp⟩
end Go.Proofs.YtjeehkdepoiegaaGreat
namespace Go.Proofs.YtjeehkdepoiegaaGreat
open Go.AL Go.RowKit
set_option linter.unusedSimpArgs false
set_option linter.unusedVariables false
set_option maxRecDepth 10000
theorem intsB_shape {cs : List AV} (h : Shp Tryz.prog 7 23 cs) : ∃ l : List Int, cs = [intsV l] ∧ l.length ≤ maxLen ∧ ∀ x ∈ l, -9223372036854775808 ≤ x ∧ x ≤ 9223372036854775807 := by
  obtain ⟨xs, e, hm, hx⟩ := shp_sl (q := (3, 1)) (by kernel_rfl) h
  obtain ⟨l, rfl, hp⟩ := list_ofB (f := fun x : Int => [AV.lit (.int .i64 x)]) (p := fun x => -9223372036854775808 ≤ x ∧ x ≤ 9223372036854775807) fun x hx' => by
    obtain ⟨n, e, hw⟩ := shp_in (k := .i64) (by kernel_rfl) (hx x hx')
    exact ⟨n, e, wf_i64 hw⟩
  exact ⟨l, e, by simpa using hm, hp⟩
theorem qryB_shape {a : AV} (h : ShpA Tryz.prog 8 27 a) : ∃ q : Qry, a = .agg q.cells ∧ q.arg.length ≤ maxLen ∧ q.wh.length ≤ maxLen ∧ q.src.length ≤ maxLen ∧ (∀ x ∈ q.src, -9223372036854775808 ≤ x ∧ x ≤ 9223372036854775807) ∧ nodesB q.arg ∧ nodesB q.wh := by
  obtain ⟨cs, rfl, hs⟩ := shpA_st (ts := [5, 22, 23, 4, 22, 25, 4, 5]) (by kernel_rfl) h
  obtain ⟨c1, r, rfl, g1, hs⟩ := hs
  obtain ⟨c2, r, rfl, g2, hs⟩ := hs
  obtain ⟨c3, r, rfl, g3, hs⟩ := hs
  obtain ⟨c4, r, rfl, g4, hs⟩ := hs
  obtain ⟨c5, r, rfl, g5, hs⟩ := hs
  obtain ⟨c6, r, rfl, g6, hs⟩ := hs
  obtain ⟨c7, r, rfl, g7, hs⟩ := hs
  obtain ⟨c8, r, rfl, g8, hs⟩ := hs
  obtain rfl : r = [] := hs
  obtain ⟨xg, rfl, _⟩ := shp_in (k := .u8) (by kernel_rfl) g1
  obtain ⟨ar, rfl, m1, n1⟩ := shNodes g2
  obtain ⟨sr, rfl, m3, w3⟩ := intsB_shape g3
  obtain ⟨jn, rfl⟩ := shp_bo (by kernel_rfl) g4
  obtain ⟨wh, rfl, m2, n2⟩ := shNodes g5
  obtain ⟨a, r, rfl, ha, h1⟩ := shp_st (ts := [5, 2, 2]) (by kernel_rfl) g6
  obtain ⟨b, r, rfl, hb, h2⟩ := h1
  obtain ⟨c, r, rfl, hc, h3⟩ := h2
  obtain rfl : r = [] := h3
  obtain ⟨xk, rfl, _⟩ := shp_in (k := .u8) (by kernel_rfl) ha
  obtain ⟨xs, rfl, _⟩ := shp_in (k := .i64) (by kernel_rfl) hb
  obtain ⟨xe, rfl, _⟩ := shp_in (k := .i64) (by kernel_rfl) hc
  obtain ⟨bk, rfl⟩ := shp_bo (by kernel_rfl) g7
  obtain ⟨xl, rfl, _⟩ := shp_in (k := .u8) (by kernel_rfl) g8
  exact ⟨⟨xg, ar, sr, jn, wh, ⟨xk, xs, xe⟩, bk, xl⟩, rfl, m1, m2, m3, w3, n1, n2⟩
end Go.Proofs.YtjeehkdepoiegaaGreat
