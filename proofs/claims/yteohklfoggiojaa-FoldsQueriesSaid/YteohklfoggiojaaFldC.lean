/-
  The walk over the reference's folding.
-/
import Derived.Test.YteohklfoggiojaaFldB
namespace Go.Proofs.Yteohklfoggiojaa
open Go.AL Go.RowKit
set_option linter.unusedSimpArgs false
set_option linter.unusedVariables false
set_option maxRecDepth 10000
set_option maxHeartbeats 4000000
theorem num_B {x p : Int} : NodeB [⟨1, x, 0, 0, p⟩] := by
  intro y hy
  rw [List.mem_singleton.1 hy]
  exact ⟨by show (-2000 : Int) ≤ 0; decide, by show (0 : Int) ≤ 2000; decide, by show (-2000 : Int) ≤ 0; decide, by show (0 : Int) ≤ 2000; decide, by show (1 : Int) ≤ 1; decide, by show (1 : Int) ≤ 19; decide⟩
theorem ex_NodeB {e : Ex} (hw : e.wf) (h : e.sz ≤ 100) : NodeB (e.fl 0) := fun x hx => by
  have h1 := e.ab_bd 0 x hx
  have h2 := Ex.kinds e 0 hw x hx
  omega
structure PartAt (l : List Node) (e : Ex) (j : Nat) : Prop where
  wf : (e.subE j).wf
  typ : (e.subE j).typ = true
  nB : (e.subE j).nB
  sz : (e.subE j).sz ≤ j + 1
  cut : cutL l (j + 1 - e.szs.getD j default) (e.szs.getD j default) = (e.subE j).fl 0
  val : ∀ r, valAt r l j = (e.subE j).val r
  node : l.getD j default = (e.subE j).nodeA j
  dp : (e.subE j).dp ≤ e.dp
theorem IsEx.partAt {l : List Node} {e : Ex} (hx : IsEx l e) (ht : e.typ = true) (hn : nodesB l) {j : Nat} (hj : j < l.length) : PartAt l e j := by
  obtain ⟨hw, rfl⟩ := hx
  rw [e.fl_length] at hj
  obtain ⟨h1, h2, h3⟩ := Ex.subE_sz hj hw
  exact ⟨Ex.subE_wf hj hw, Ex.typ_sub ht j, Ex.nB_sub (e.nB_of 0 hn) j, h1, by rw [h2]; exact Ex.subE_cut hj hw, fun r => Ex.val_at r hw j hj, by rw [e.node_at 0 j hj, Nat.zero_add], h3⟩
theorem fold_ok {f : Ex} (hw : f.wf) (ht : f.typ = true) (hn : f.nB) (h : f.sz ≤ 100) : IsEx ((foldE f).fl 0) (foldE f) ∧ ((foldE f).fl 0).length ≤ 100 ∧ 0 < ((foldE f).fl 0).length ∧ NodeB ((foldE f).fl 0) := by
  have S := foldE_same hw ht hn
  have := S.sz
  exact ⟨⟨S.wf, rfl⟩, by rw [Ex.fl_length]; omega, by rw [Ex.fl_length]; exact Ex.sz_pos _, ex_NodeB S.wf (by omega)⟩
noncomputable def fldR (l : List Node) : List Node := if ofE l = 0 then (match treeO l with | some e => (foldE e).fl 0 | none => []) else []
theorem fldR_ex {l : List Node} {e : Ex} (h : ofE l = 0) (ht : treeO l = some e) : fldR l = (foldE e).fl 0 := by unfold fldR; rw [if_pos h, ht]
theorem ofE_tree {l : List Node} (h : ofE l = 0) : ∃ e, treeO l = some e ∧ IsEx l e ∧ e.sz ≤ 60 ∧ e.dp ≤ 20 ∧ e.typ = true ∧ l.length = e.sz := by
  obtain ⟨h0, h1⟩ := ofE_0 h
  obtain ⟨e, ht, hx, h2, h3⟩ := errL_ok h0
  refine ⟨e, ht, hx, h2, h3, ?_, hx.len⟩
  rw [← Ex.typ_iff hx.1, ← hx.2]; exact h1
end Go.Proofs.Yteohklfoggiojaa
