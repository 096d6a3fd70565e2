/-
  What the laws on folding share.
-/
import Derived.Test.YteohklfoggiojaaFdA
import Derived.Test.YteohklfoggiojaaVShp
namespace Go.Proofs.Yteohklfoggiojaa
open Go.AL Go.RowKit
set_option linter.unusedSimpArgs false
set_option linter.unusedVariables false
structure Fld (l : List Node) (e : Ex) : Prop where
  ex : IsEx l e
  tree : treeO l = some e
  len : l.length = e.sz
  sz : e.sz ≤ 60
  dp : e.dp ≤ 20
  typ : e.typ = true
  nB : e.nB
  out : fldR l = (foldE e).fl 0
  same : Same e (foldE e)
theorem fld_of {l : List Node} (h0 : ofE l = 0) (hn : nodesB l) : ∃ e, Fld l e := by
  obtain ⟨e, ht, hx, h2, h3, h4, h5⟩ := ofE_tree h0
  have hB := e.nB_of 0 (hx.2 ▸ hn)
  exact ⟨e, hx, ht, h5, h2, h3, h4, hB, fldR_ex h0 ht, foldE_same hx.1 h4 hB⟩
theorem ofB_fl {e : Ex} (hw : e.wf) (h1 : e.sz ≤ 60) (h2 : e.dp ≤ 20) (ht : e.typ = true) : ofB (e.fl 0) = givesB e.hd.kind := by
  have h0 := (ofE_0 (ofE_ty hw h1 h2 ht))
  have := e.sz_pos
  unfold ofB
  rw [if_neg (by rw [h0.1]; decide), if_neg (by rw [h0.2]; omega), e.fl_length, Ex.kind_at (by omega), e.subE_end]
theorem Fld.out_len {l : List Node} {e : Ex} (h : Fld l e) : (fldR l).length = (foldE e).sz := by rw [h.out, Ex.fl_length]
theorem Fld.kind {l : List Node} {e : Ex} (h : Fld l e) : ofB (fldR l) = ofB l := by
  rw [h.out, h.ex.2, ofB_fl h.same.wf (by have := h.same.sz; have := h.sz; omega) (by have := h.same.dp; have := h.dp; omega) h.same.typ, ofB_fl h.ex.1 h.sz h.dp h.typ, h.same.gives]
end Go.Proofs.Yteohklfoggiojaa
