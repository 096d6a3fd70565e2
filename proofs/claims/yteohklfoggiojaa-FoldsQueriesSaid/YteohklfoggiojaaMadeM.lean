/-
  Expressions made of parts. Plain Lean: no program in sight.
-/
import Derived.Test.YteohklfoggiojaaPlnM
namespace Go.Proofs.Yteohklfoggiojaa
open Go.AL
set_option linter.unusedSimpArgs false
set_option linter.unusedVariables false
theorem cut_sub {l pre post : List Node} {g : Ex} (hl : l = pre ++ g.fl pre.length ++ post) (hw : g.wf) {off s : Nat} (ho : off = pre.length) (hs : s = g.sz) : cutL l off s = g.fl 0 := by
  subst ho hs hl
  unfold cutL
  rw [List.append_assoc, List.drop_append_of_le_length (Nat.le_refl _), List.drop_length, List.nil_append, List.take_append_of_le_length (by rw [g.fl_length]; exact Nat.le_refl _), List.take_of_length_le (by rw [g.fl_length]; exact Nat.le_refl _)]
  exact g.mv _ hw
theorem Ex.up : ∀ (e : Ex) (d : Nat), e.wf → (e.fl 0).map (mvN (d : Int)) = e.fl d := by
  suffices H : ∀ (e : Ex) (o d : Nat), e.wf → (e.fl o).map (mvN (d : Int)) = e.fl (d + o) by
    intro e d hw; have := H e 0 d hw; simpa using this
  intro e
  induction e with
  | leaf x => intro o d hw; simp [Ex.fl, mvN, Hd.node, partsN_leaf hw.1 hw.2]
  | un x e ih =>
    intro o d hw
    have hp := e.sz_pos
    simp only [Ex.fl, List.map_append, ih o d hw.2.2.2, List.map_cons, List.map_nil]
    congr 1
    simp [mvN, Hd.node, partsN_un hw.2.1 hw.2.2.1]
    omega
  | bin x e f ih1 ih2 =>
    intro o d hw
    have hp := e.sz_pos
    have hp2 := f.sz_pos
    have hh := ih2 (o + e.sz) d hw.2.2.2
    rw [← Nat.add_assoc] at hh
    simp only [Ex.fl, List.map_append, ih1 o d hw.2.2.1, hh, List.map_cons, List.map_nil]
    congr 1
    simp [mvN, Hd.node, partsN_bin hw.1 hw.2.1]
    omega
def made1 (k n p : Int) (a : List Node) : List Node := a ++ [⟨k, n, (a.length : Int) - 1, 0, p⟩]
def made2 (k n p : Int) (a b : List Node) : List Node := a ++ b.map (mvN (a.length : Int)) ++ [⟨k, n, (a.length : Int) - 1, (a.length : Int) + b.length - 1, p⟩]
theorem IsEx.made1 {a : List Node} {e : Ex} (h : IsEx a e) {x : Hd} (hx : x.ok) (h1 : 4 < x.kind) (h2 : x.kind ≤ 6) : IsEx (made1 x.kind x.n x.pos a) (.un x e) := by
  have hp := e.sz_pos
  have hl := h.len
  refine ⟨⟨hx, h1, h2, h.1⟩, ?_⟩
  unfold Go.Proofs.Yteohklfoggiojaa.made1
  rw [hl, h.2]
  simp only [Ex.fl, Hd.node, Nat.zero_add]
  congr 3
  omega
theorem IsEx.made2 {a b : List Node} {e f : Ex} (h : IsEx a e) (k : IsEx b f) {x : Hd} (hx : x.ok) (h1 : 6 < x.kind) : IsEx (made2 x.kind x.n x.pos a b) (.bin x e f) := by
  have hp := e.sz_pos
  have hq := f.sz_pos
  have hl := h.len
  have hk := k.len
  refine ⟨⟨hx, h1, h.1, k.1⟩, ?_⟩
  unfold Go.Proofs.Yteohklfoggiojaa.made2
  rw [hl, hk, h.2, k.2, f.up _ k.1]
  simp only [Ex.fl, Hd.node, Nat.zero_add]
  congr 3
  · omega
  · omega
end Go.Proofs.Yteohklfoggiojaa
