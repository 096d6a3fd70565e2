/-
  The subtree at an index. Plain Lean: no program in sight.
-/
import Derived.Test.YteohklfoggiojaaPartM
namespace Go.Proofs.Yteohklfoggiojaa
open Go.AL
set_option linter.unusedSimpArgs false
set_option linter.unusedVariables false
structure Sub (e : Ex) (o j : Nat) (f : Ex) (pre post : List Node) (sp st : List Nat) : Prop where
  fl : e.fl o = pre ++ f.fl (o + pre.length) ++ post
  szs : e.szs = sp ++ f.szs ++ st
  len : sp.length = pre.length
  pos : pre.length + f.sz = j + 1
  wf : f.wf
  dp : f.dp ≤ e.dp
theorem Ex.sub : ∀ (e : Ex) (o j : Nat), j < e.sz → e.wf → ∃ f pre post sp st, Sub e o j f pre post sp st
  | .leaf x, o, j, hj, hw => ⟨.leaf x, [], [], [], [], by simp, by simp, rfl, by simp [Ex.sz] at hj ⊢; omega, hw, Nat.le_refl _⟩
  | .un x e, o, j, hj, hw => by
    by_cases h : j < e.sz
    · obtain ⟨f, pre, post, sp, st, H⟩ := e.sub o j h hw.2.2.2
      exact ⟨f, pre, post ++ [x.node ((o + e.sz - 1 : Nat) : Int) 0], sp, st ++ [e.sz + 1], by rw [Ex.fl, H.fl]; simp, by rw [Ex.szs, H.szs]; simp, H.len, H.pos, H.wf, by have := H.dp; simp [Ex.dp]; omega⟩
    · exact ⟨.un x e, [], [], [], [], by simp, by simp, rfl, by simp [Ex.sz] at hj ⊢; omega, hw, Nat.le_refl _⟩
  | .bin x e g, o, j, hj, hw => by
    by_cases h : j < e.sz
    · obtain ⟨f, pre, post, sp, st, H⟩ := e.sub o j h hw.2.2.1
      exact ⟨f, pre, post ++ g.fl (o + e.sz) ++ [x.node ((o + e.sz - 1 : Nat) : Int) ((o + e.sz + g.sz - 1 : Nat) : Int)], sp, st ++ g.szs ++ [e.sz + g.sz + 1], by rw [Ex.fl, H.fl]; simp, by rw [Ex.szs, H.szs]; simp, H.len, H.pos, H.wf, by have := H.dp; simp [Ex.dp]; omega⟩
    · by_cases h2 : j < e.sz + g.sz
      · obtain ⟨f, pre, post, sp, st, H⟩ := g.sub (o + e.sz) (j - e.sz) (by omega) hw.2.2.2
        refine ⟨f, e.fl o ++ pre, post ++ [x.node ((o + e.sz - 1 : Nat) : Int) ((o + e.sz + g.sz - 1 : Nat) : Int)], e.szs ++ sp, st ++ [e.sz + g.sz + 1], ?_, by rw [Ex.szs, H.szs]; simp, ?_, ?_, H.wf, by have := H.dp; simp [Ex.dp]; omega⟩
        · rw [Ex.fl, H.fl, List.length_append, e.fl_length]; simp [Nat.add_assoc]
        · rw [List.length_append, List.length_append, e.szs_length, e.fl_length, H.len]
        · have := H.pos
          rw [List.length_append, e.fl_length]; omega
      · exact ⟨.bin x e g, [], [], [], [], by simp, by simp, rfl, by simp [Ex.sz] at hj ⊢; omega, hw, Nat.le_refl _⟩
theorem partsN_leaf {x : Hd} (h : x.ok) (k : x.kind ≤ 4) : partsN x.kind = 0 := by have := h.k1; unfold partsN; rw [if_pos (by omega)]
theorem partsN_un {x : Hd} (h1 : 4 < x.kind) (h2 : x.kind ≤ 6) : partsN x.kind = 1 := by unfold partsN; rw [if_neg (by omega), if_pos (by omega)]
theorem partsN_bin {x : Hd} (h : x.ok) (h1 : 6 < x.kind) : partsN x.kind = 2 := by have := h.k2; unfold partsN; rw [if_neg (by omega), if_neg (by omega), if_pos (by omega)]
theorem Ex.mv : ∀ (e : Ex) (o : Nat), e.wf → (e.fl o).map (mvN (-(o : Int))) = e.fl 0 := by
  suffices H : ∀ (e : Ex) (o d : Nat), e.wf → (e.fl (d + o)).map (mvN (-(d : Int))) = e.fl o by
    intro e o hw; have := H e 0 o hw; simpa using this
  intro e
  induction e with
  | leaf x => intro o d hw; simp [Ex.fl, mvN, Hd.node, partsN_leaf hw.1 hw.2]
  | un x e ih =>
    intro o d hw
    have hp := e.sz_pos
    simp only [Ex.fl, List.map_append, ih o d hw.2.2.2, List.map_cons, List.map_nil]
    congr 1
    simp [mvN, Hd.node, partsN_un hw.2.1 hw.2.2.1]
    omega
  | bin x e f ih1 ih2 =>
    intro o d hw
    have hp := e.sz_pos
    have hp2 := f.sz_pos
    have hh := ih2 (o + e.sz) d hw.2.2.2
    rw [← Nat.add_assoc] at hh
    simp only [Ex.fl, List.map_append, ih1 o d hw.2.2.1, hh, List.map_cons, List.map_nil]
    congr 1
    simp [mvN, Hd.node, partsN_bin hw.1 hw.2.1]
    omega
theorem getD_mid {α : Type} [Inhabited α] (pre m post : List α) (i j : Nat) (hj : j = pre.length + i) (hi : i < m.length) : (pre ++ m ++ post).getD j default = m.getD i default := by
  subst hj
  rw [List.getD_eq_getElem?_getD, List.getElem?_append_left (by simp; omega), List.getElem?_append_right (by omega), List.getD_eq_getElem?_getD]
  congr 2; omega
theorem Ex.ab_bd : ∀ (e : Ex) (o : Nat), ∀ x ∈ e.fl o, 0 ≤ x.a ∧ x.a ≤ o + e.sz ∧ 0 ≤ x.b ∧ x.b ≤ o + e.sz
  | .leaf x, o, y, hy => by simp [Ex.fl] at hy; subst hy; simp [Hd.node]; omega
  | .un x e, o, y, hy => by
    simp only [Ex.fl, List.mem_append, List.mem_singleton] at hy
    rcases hy with hy | rfl
    · have := e.ab_bd o y hy; simp [Ex.sz]; omega
    · simp [Hd.node, Ex.sz]; omega
  | .bin x e f, o, y, hy => by
    simp only [Ex.fl, List.mem_append, List.mem_singleton] at hy
    rcases hy with (hy | hy) | rfl
    · have := e.ab_bd o y hy; simp [Ex.sz]; omega
    · have := f.ab_bd (o + e.sz) y hy; simp [Ex.sz] at *; omega
    · simp [Hd.node, Ex.sz]; omega
end Go.Proofs.Yteohklfoggiojaa
