/-
  Expressions as trees: what the checks tell of a list. Plain Lean: no program in sight.
-/
import Derived.Test.YteohklfoggiojaaTopL
namespace Go.Proofs.Yteohklfoggiojaa
open Go.AL
set_option linter.unusedSimpArgs false
set_option linter.unusedVariables false
def IsEx (l : List Node) (e : Ex) : Prop := e.wf ∧ l = e.fl 0
open Classical in
noncomputable def treeO (l : List Node) : Option Ex := if h : ∃ e, IsEx l e then some (Classical.choose h) else none
theorem treeO_some {l : List Node} {e : Ex} (h : treeO l = some e) : IsEx l e := by
  unfold treeO at h
  split at h
  · rename_i hx; cases h; exact Classical.choose_spec hx
  · cases h
theorem treeO_none {l : List Node} (h : treeO l = none) (e : Ex) : ¬ IsEx l e := by
  unfold treeO at h
  split at h
  · cases h
  · rename_i hx; exact fun he => hx ⟨e, he⟩
theorem Ex.szs_end (e : Ex) : e.szs.getD (e.sz - 1) default = e.sz := by
  obtain ⟨l, hl⟩ := e.szs_last
  have h1 := e.szs_length
  rw [hl] at h1 ⊢
  simp at h1
  rw [← h1]
  simp [List.getD_eq_getElem?_getD]
theorem Ex.dps_end (e : Ex) : e.dps.getD (e.sz - 1) default = e.dp := by
  obtain ⟨l, hl⟩ := e.dps_last
  have h1 := e.dps_length
  rw [hl] at h1 ⊢
  simp at h1
  rw [← h1]
  simp [List.getD_eq_getElem?_getD]
theorem isEx_flF {l : List Node} {e : Ex} (h : IsEx l e) : l = flF 0 [e] := by rw [h.2]; simp [flF]
theorem IsEx.sizes {l : List Node} {e : Ex} (h : IsEx l e) : sizesF l = some (e.szs, e.dps) := by
  rw [isEx_flF h, sizesF_flF (by simpa using h.1)]; simp
theorem IsEx.tops {l : List Node} {e : Ex} (h : IsEx l e) : topsF l = some ([e.root 0], e.tops 0) := by
  rw [isEx_flF h, topsF_flF (by simpa using h.1)]; simp [rootsF, allF]
theorem IsEx.len {l : List Node} {e : Ex} (h : IsEx l e) : l.length = e.sz := by rw [h.2, e.fl_length]
theorem IsEx.uniq {l : List Node} {e f : Ex} (h : IsEx l e) (k : IsEx l f) : e.szs = f.szs ∧ e.dps = f.dps ∧ e.sz = f.sz ∧ e.dp = f.dp := by
  have h1 := h.sizes.symm.trans k.sizes
  simp only [Option.some.injEq, Prod.mk.injEq] at h1
  have h2 : e.sz = f.sz := by rw [← h.len, k.len]
  refine ⟨h1.1, h1.2, h2, ?_⟩
  rw [← e.dps_end, ← f.dps_end, h1.2, h2]
theorem sizes_no {l : List Node} (h : treeO l = none) {s d : List Nat} (hs : sizesF l = some (s, d)) : (decide (0 < l.length) && (s.getD (l.length - 1) default == l.length)) = false := by
  obtain ⟨G, rfl, hw, hsd⟩ := sizesF_forest hs
  simp only [Prod.mk.injEq] at hsd
  rcases snoc_cases G with rfl | ⟨F, e, rfl⟩
  · simp [flF]
  · rcases snoc_cases F with rfl | ⟨F2, f, rfl⟩
    · exact absurd ⟨hw e (by simp), by simp [flF]⟩ (treeO_none h e)
    · have h1 : s.getD (szF (F2 ++ [f] ++ [e]) - 1) 0 = e.sz := by
        rw [hsd.1]
        have hp := e.sz_pos
        have := szs_at ((F2 ++ [f]).flatMap Ex.szs) [] e (szF (F2 ++ [f] ++ [e]) - 1) (by rw [szs_lenF, szF_app (F2 ++ [f]) [e]]; simp [szF]; omega)
        simpa using this
      rw [flF_length]
      have h2 : szF (F2 ++ [f] ++ [e]) = szF F2 + f.sz + e.sz := by simp [szF]; omega
      have := f.sz_pos
      have h3 : s.getD (szF (F2 ++ [f] ++ [e]) - 1) default = e.sz := h1
      rw [h3, h2]
      simp
      omega
theorem tops_no {l : List Node} (h : treeO l = none) {s a : List Top} (hs : topsF l = some (s, a)) : (s.length == 1) = false := by
  obtain ⟨G, rfl, hw, hsd⟩ := topsF_some hs
  simp only [Prod.mk.injEq] at hsd
  rw [hsd.1, rootsF_length]
  match G, hw, h with
  | [], _, _ => rfl
  | [e], hw, h => exact absurd ⟨hw e (by simp), by simp [flF]⟩ (treeO_none h e)
  | _ :: _ :: _, _, _ => simp
noncomputable def errL (l : List Node) : Int := if 60 < l.length then 4 else match treeO l with
  | some e => if 20 < e.dp then 34 else 0
  | none => 8
theorem errL_ok {l : List Node} (h : errL l = 0) : ∃ e, treeO l = some e ∧ IsEx l e ∧ e.sz ≤ 60 ∧ e.dp ≤ 20 := by
  unfold errL at h
  split at h
  · omega
  · cases ht : treeO l with
    | none => rw [ht] at h; simp at h
    | some e =>
      rw [ht] at h
      simp only at h
      split at h
      · omega
      · have := treeO_some ht
        exact ⟨e, rfl, this, by rw [← this.len]; omega, by omega⟩
theorem errL_of {l : List Node} {e : Ex} (h : IsEx l e) (h1 : e.sz ≤ 60) (h2 : e.dp ≤ 20) : errL l = 0 := by
  unfold errL
  rw [if_neg (by rw [h.len]; omega)]
  cases ht : treeO l with
  | none => exact absurd h (treeO_none ht e)
  | some f =>
    simp only
    rw [if_neg (by have := (treeO_some ht).uniq h; omega)]
theorem Ex.tops_end (e : Ex) (o : Nat) : (e.tops o).getD (e.sz - 1) default = ⟨o + e.sz - 1, e.sz, e.dp⟩ := by
  cases e with
  | leaf x => simp [Ex.tops, Ex.sz, Ex.dp]
  | un x e =>
    have : (e.tops o).length = e.sz := e.tops_length o
    simp only [Ex.tops, Ex.sz, Ex.dp, Nat.add_sub_cancel]
    rw [List.getD_eq_getElem?_getD, List.getElem?_append_right (by omega), this]
    simp
  | bin x e f =>
    have h1 := e.tops_length o
    have h2 := f.tops_length (o + e.sz)
    simp only [Ex.tops, Ex.sz, Ex.dp, Nat.add_sub_cancel]
    rw [List.getD_eq_getElem?_getD, List.getElem?_append_right (by simp [h1, h2])]
    simp [h1, h2]
    omega
theorem Ex.tops_size : ∀ (e : Ex) (o : Nat), (e.tops o).map Top.size = e.szs
  | .leaf _, o => by simp [Ex.tops, Ex.szs]
  | .un _ e, o => by simp [Ex.tops, Ex.szs, e.tops_size]
  | .bin _ e f, o => by simp [Ex.tops, Ex.szs, e.tops_size, f.tops_size]
end Go.Proofs.Yteohklfoggiojaa
