/-
  Expressions made of parts. Plain Lean: no program in sight.
-/
import Derived.Test.YteohklfoggiojaaSameM
namespace Go.Proofs.Yteohklfoggiojaa
open Go.AL
set_option linter.unusedSimpArgs false
set_option linter.unusedVariables false
theorem cut_sub {l pre post : List Node} {g : Ex} (hl : l = pre ++ g.fl pre.length ++ post) (hw : g.wf) {off s : Nat} (ho : off = pre.length) (hs : s = g.sz) : cutL l off s = g.fl 0 := by
  subst ho hs hl
  unfold cutL
  rw [List.append_assoc, List.drop_append_of_le_length (Nat.le_refl _), List.drop_length, List.nil_append, List.take_append_of_le_length (by rw [g.fl_length]; exact Nat.le_refl _), List.take_of_length_le (by rw [g.fl_length]; exact Nat.le_refl _)]
  exact g.mv _ hw
theorem IsEx.parts {l : List Node} {e : Ex} (h : IsEx l e) {j : Nat} (hj : j < e.sz) :
    (∃ x : Hd, x.ok ∧ x.kind ≤ 4 ∧ (l.getD j default).hd = x ∧ IsEx (cutL l (j + 1 - e.szs.getD j default) (e.szs.getD j default)) (.leaf x)) ∨
    (∃ (x : Hd) (g : Ex) (a : Nat), x.ok ∧ 4 < x.kind ∧ x.kind ≤ 6 ∧ (l.getD j default).hd = x ∧ IsEx (cutL l (j + 1 - e.szs.getD j default) (e.szs.getD j default)) (.un x g) ∧ (l.getD j default).a = a ∧ a < j ∧ IsEx (cutL l (a + 1 - e.szs.getD a default) (e.szs.getD a default)) g) ∨
    (∃ (x : Hd) (g k : Ex) (a b : Nat), x.ok ∧ 6 < x.kind ∧ (l.getD j default).hd = x ∧ IsEx (cutL l (j + 1 - e.szs.getD j default) (e.szs.getD j default)) (.bin x g k) ∧ (l.getD j default).a = a ∧ a < j ∧ IsEx (cutL l (a + 1 - e.szs.getD a default) (e.szs.getD a default)) g ∧
      (l.getD j default).b = b ∧ b < j ∧ IsEx (cutL l (b + 1 - e.szs.getD b default) (e.szs.getD b default)) k) := by
  obtain ⟨hw, hl⟩ := h
  obtain ⟨f, pre, post, sp, st, H⟩ := e.sub 0 j hj hw
  have hp := f.sz_pos
  have hpos := H.pos
  have hlen := H.len
  have hfl := H.fl
  rw [Nat.zero_add, ← hl] at hfl
  have hs : e.szs.getD j default = f.sz := by
    rw [H.szs, getD_mid sp f.szs st (f.sz - 1) j (by omega) (by rw [f.szs_length]; omega), f.szs_end]
  have hn : l.getD j default = (f.fl pre.length).getD (f.sz - 1) default := by
    rw [hfl, getD_mid pre _ post (f.sz - 1) j (by omega) (by rw [f.fl_length]; omega)]
  have hsz : ∀ i, i < f.sz → e.szs.getD (pre.length + i) default = f.szs.getD i default := fun i hi => by
    rw [H.szs, getD_mid sp f.szs st i _ (by omega) (by rw [f.szs_length]; omega)]
  have hcut : IsEx (cutL l (j + 1 - e.szs.getD j default) (e.szs.getD j default)) f := ⟨H.wf, cut_sub hfl H.wf (by omega) hs⟩
  rw [hn]
  have hwf := H.wf
  clear hs hn
  cases f with
  | leaf x => exact .inl ⟨x, hwf.1, hwf.2, by simp [Ex.fl, Ex.sz, Hd.node, Node.hd], hcut⟩
  | un x g =>
    have hg := g.sz_pos
    have h1 := hsz (g.sz - 1) (by simp [Ex.sz]; omega)
    have hr : ((Ex.un x g).fl pre.length).getD ((Ex.un x g).sz - 1) default = x.node ((pre.length + g.sz - 1 : Nat) : Int) 0 := by
      simp only [Ex.fl, Ex.sz, Nat.add_sub_cancel]
      rw [List.getD_eq_getElem?_getD, List.getElem?_append_right (by rw [g.fl_length]; exact Nat.le_refl _), g.fl_length]; simp
    rw [hr]
    have e1 : (Ex.un x g).szs.getD (g.sz - 1) default = g.sz := by
      simp only [Ex.szs, List.getD_eq_getElem?_getD]
      rw [List.getElem?_append_left (by rw [g.szs_length]; omega), ← List.getD_eq_getElem?_getD, g.szs_end]
    rw [e1] at h1
    refine .inr (.inl ⟨x, g, pre.length + g.sz - 1, hwf.1, hwf.2.1, hwf.2.2.1, rfl, hcut, rfl, by simp [Ex.sz] at hpos; omega, hwf.2.2.2, ?_⟩)
    rw [show pre.length + g.sz - 1 = pre.length + (g.sz - 1) by omega, h1]
    exact cut_sub (pre := pre) (post := [x.node ((pre.length + g.sz - 1 : Nat) : Int) 0] ++ post) (by rw [hfl]; simp [Ex.fl, List.append_assoc]) hwf.2.2.2 (by omega) rfl
  | bin x g k =>
    have hg := g.sz_pos
    have hk := k.sz_pos
    have h1 := hsz (g.sz - 1) (by simp [Ex.sz]; omega)
    have h2 := hsz (g.sz + k.sz - 1) (by simp [Ex.sz]; omega)
    have hr : ((Ex.bin x g k).fl pre.length).getD ((Ex.bin x g k).sz - 1) default = x.node ((pre.length + g.sz - 1 : Nat) : Int) ((pre.length + g.sz + k.sz - 1 : Nat) : Int) := by
      simp only [Ex.fl, Ex.sz, Nat.add_sub_cancel]
      rw [List.getD_eq_getElem?_getD, List.getElem?_append_right (by rw [List.length_append, g.fl_length, k.fl_length]; exact Nat.le_refl _), List.length_append, g.fl_length, k.fl_length]; simp
    rw [hr]
    have e1 : (Ex.bin x g k).szs.getD (g.sz - 1) default = g.sz := by
      simp only [Ex.szs, List.getD_eq_getElem?_getD]
      rw [List.append_assoc, List.getElem?_append_left (by rw [g.szs_length]; omega), ← List.getD_eq_getElem?_getD, g.szs_end]
    have e2 : (Ex.bin x g k).szs.getD (g.sz + k.sz - 1) default = k.sz := by
      simp only [Ex.szs, List.getD_eq_getElem?_getD]
      rw [List.getElem?_append_left (by rw [List.length_append, g.szs_length, k.szs_length]; omega), List.getElem?_append_right (by rw [g.szs_length]; omega), g.szs_length, ← List.getD_eq_getElem?_getD, show g.sz + k.sz - 1 - g.sz = k.sz - 1 by omega, k.szs_end]
    rw [e1] at h1
    rw [e2] at h2
    refine .inr (.inr ⟨x, g, k, pre.length + g.sz - 1, pre.length + g.sz + k.sz - 1, hwf.1, hwf.2.1, rfl, hcut, rfl, by simp [Ex.sz] at hpos; omega, ⟨hwf.2.2.1, ?_⟩, rfl, by simp [Ex.sz] at hpos; omega, ⟨hwf.2.2.2, ?_⟩⟩)
    · rw [show pre.length + g.sz - 1 = pre.length + (g.sz - 1) by omega, h1]
      exact cut_sub (pre := pre) (post := k.fl (pre.length + g.sz) ++ [x.node ((pre.length + g.sz - 1 : Nat) : Int) ((pre.length + g.sz + k.sz - 1 : Nat) : Int)] ++ post) (by rw [hfl]; simp [Ex.fl, List.append_assoc]) hwf.2.2.1 (by omega) rfl
    · rw [show pre.length + g.sz + k.sz - 1 = pre.length + (g.sz + k.sz - 1) by omega, h2]
      exact cut_sub (pre := pre ++ g.fl pre.length) (post := [x.node ((pre.length + g.sz - 1 : Nat) : Int) ((pre.length + g.sz + k.sz - 1 : Nat) : Int)] ++ post) (by rw [hfl, List.length_append, g.fl_length]; simp [Ex.fl, List.append_assoc]) hwf.2.2.2 (by rw [List.length_append, g.fl_length]; omega) rfl
theorem Ex.up : ∀ (e : Ex) (d : Nat), e.wf → (e.fl 0).map (mvN (d : Int)) = e.fl d := by
  suffices H : ∀ (e : Ex) (o d : Nat), e.wf → (e.fl o).map (mvN (d : Int)) = e.fl (d + o) by
    intro e d hw; have := H e 0 d hw; simpa using this
  intro e
  induction e with
  | leaf x => intro o d hw; simp [Ex.fl, mvN, Hd.node, partsN_leaf hw.1 hw.2]
  | un x e ih =>
    intro o d hw
    have hp := e.sz_pos
    simp only [Ex.fl, List.map_append, ih o d hw.2.2.2, List.map_cons, List.map_nil]
    congr 1
    simp [mvN, Hd.node, partsN_un hw.2.1 hw.2.2.1]
    omega
  | bin x e f ih1 ih2 =>
    intro o d hw
    have hp := e.sz_pos
    have hp2 := f.sz_pos
    have hh := ih2 (o + e.sz) d hw.2.2.2
    rw [← Nat.add_assoc] at hh
    simp only [Ex.fl, List.map_append, ih1 o d hw.2.2.1, hh, List.map_cons, List.map_nil]
    congr 1
    simp [mvN, Hd.node, partsN_bin hw.1 hw.2.1]
    omega
def made1 (k n p : Int) (a : List Node) : List Node := a ++ [⟨k, n, (a.length : Int) - 1, 0, p⟩]
def made2 (k n p : Int) (a b : List Node) : List Node := a ++ b.map (mvN (a.length : Int)) ++ [⟨k, n, (a.length : Int) - 1, (a.length : Int) + b.length - 1, p⟩]
theorem IsEx.made1 {a : List Node} {e : Ex} (h : IsEx a e) {x : Hd} (hx : x.ok) (h1 : 4 < x.kind) (h2 : x.kind ≤ 6) : IsEx (made1 x.kind x.n x.pos a) (.un x e) := by
  have hp := e.sz_pos
  have hl := h.len
  refine ⟨⟨hx, h1, h2, h.1⟩, ?_⟩
  unfold Go.Proofs.Yteohklfoggiojaa.made1
  rw [hl, h.2]
  simp only [Ex.fl, Hd.node, Nat.zero_add]
  congr 3
  omega
theorem IsEx.made2 {a b : List Node} {e f : Ex} (h : IsEx a e) (k : IsEx b f) {x : Hd} (hx : x.ok) (h1 : 6 < x.kind) : IsEx (made2 x.kind x.n x.pos a b) (.bin x e f) := by
  have hp := e.sz_pos
  have hq := f.sz_pos
  have hl := h.len
  have hk := k.len
  refine ⟨⟨hx, h1, h.1, k.1⟩, ?_⟩
  unfold Go.Proofs.Yteohklfoggiojaa.made2
  rw [hl, hk, h.2, k.2, f.up _ k.1]
  simp only [Ex.fl, Hd.node, Nat.zero_add]
  congr 3
  · omega
  · omega
end Go.Proofs.Yteohklfoggiojaa
