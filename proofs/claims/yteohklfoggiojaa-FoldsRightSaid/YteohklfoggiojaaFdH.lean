/-
  What the laws on folding share.
-/
import Derived.Test.YteohklfoggiojaaFdA
import Derived.Test.YteohklfoggiojaaVShp
namespace Go.Proofs.Yteohklfoggiojaa
open Go.AL Go.RowKit
set_option linter.unusedSimpArgs false
set_option linter.unusedVariables false
structure Fld (l : List Node) (e : Ex) : Prop where
  ex : IsEx l e
  tree : treeO l = some e
  len : l.length = e.sz
  sz : e.sz ≤ 60
  dp : e.dp ≤ 20
  typ : e.typ = true
  nB : e.nB
  out : fldR l = (foldE e).fl 0
  same : Same e (foldE e)
theorem fld_of {l : List Node} (h0 : ofE l = 0) (hn : nodesB l) : ∃ e, Fld l e := by
  obtain ⟨e, ht, hx, h2, h3, h4, h5⟩ := ofE_tree h0
  have hB := e.nB_of 0 (hx.2 ▸ hn)
  exact ⟨e, hx, ht, h5, h2, h3, h4, hB, fldR_ex h0 ht, foldE_same hx.1 h4 hB⟩
theorem treeO_fl {e : Ex} (hw : e.wf) : treeO (e.fl 0) = some e := by
  cases h : treeO (e.fl 0) with
  | none => exact absurd ⟨hw, rfl⟩ (treeO_none h e)
  | some f =>
    have := treeO_some h
    rw [Ex.fl_inj this.1 hw this.2.symm]
theorem ofV_fl (r : Rcd) {e : Ex} (hw : e.wf) (h1 : e.sz ≤ 60) (h2 : e.dp ≤ 20) (ht : e.typ = true) : ofV r (e.fl 0) = e.val r := by
  have := e.sz_pos
  unfold ofV
  rw [if_pos (ofE_ty hw h1 h2 ht), e.fl_length, Ex.val_at r hw _ (by omega), e.subE_end]
theorem ofB_fl {e : Ex} (hw : e.wf) (h1 : e.sz ≤ 60) (h2 : e.dp ≤ 20) (ht : e.typ = true) : ofB (e.fl 0) = givesB e.hd.kind := by
  have h0 := (ofE_0 (ofE_ty hw h1 h2 ht))
  have := e.sz_pos
  unfold ofB
  rw [if_neg (by rw [h0.1]; decide), if_neg (by rw [h0.2]; omega), e.fl_length, Ex.kind_at (by omega), e.subE_end]
theorem Fld.out_ty {l : List Node} {e : Ex} (h : Fld l e) : ofE (fldR l) = 0 := by
  rw [h.out]; exact ofE_ty h.same.wf (by have := h.same.sz; have := h.sz; omega) (by have := h.same.dp; have := h.dp; omega) h.same.typ
theorem Fld.out_B {l : List Node} {e : Ex} (h : Fld l e) : nodesB (fldR l) := by
  rw [h.out]; exact Ex.nB_fl _ 0 h.same.wf h.same.nB
theorem Fld.out_len {l : List Node} {e : Ex} (h : Fld l e) : (fldR l).length = (foldE e).sz := by rw [h.out, Ex.fl_length]
theorem Fld.val {l : List Node} {e : Ex} (h : Fld l e) (r : Rcd) : ofV r (fldR l) = ofV r l := by
  rw [h.out, h.ex.2, ofV_fl r h.same.wf (by have := h.same.sz; have := h.sz; omega) (by have := h.same.dp; have := h.dp; omega) h.same.typ, ofV_fl r h.ex.1 h.sz h.dp h.typ, h.same.val r]
theorem Fld.kind {l : List Node} {e : Ex} (h : Fld l e) : ofB (fldR l) = ofB l := by
  rw [h.out, h.ex.2, ofB_fl h.same.wf (by have := h.same.sz; have := h.sz; omega) (by have := h.same.dp; have := h.dp; omega) h.same.typ, ofB_fl h.ex.1 h.sz h.dp h.typ, h.same.gives]
end Go.Proofs.Yteohklfoggiojaa
