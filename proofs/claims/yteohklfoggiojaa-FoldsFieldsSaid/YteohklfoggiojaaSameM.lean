/-
  Expressions that are the same but for where they stand. Plain Lean: no program in sight.
-/
import Derived.Test.YteohklfoggiojaaSubM
namespace Go.Proofs.Yteohklfoggiojaa
open Go.AL
set_option linter.unusedSimpArgs false
set_option linter.unusedVariables false
def Node.setp (p : Int) (x : Node) : Node := ⟨x.kind, x.n, x.a, x.b, p⟩
def sameN (a b : List Node) : Bool := decide (a.map (Node.setp 0) = b.map (Node.setp 0))
theorem sameN_len {a b : List Node} (h : sameN a b = true) : a.length = b.length := by
  have := congrArg List.length (of_decide_eq_true h); simpa using this
theorem sameN_at {a b : List Node} (h : sameN a b = true) (j : Nat) : (a.getD j default).setp 0 = (b.getD j default).setp 0 := by
  have h2 := of_decide_eq_true h
  have h1 : ∀ l : List Node, (l.map (Node.setp 0)).getD j default = (l.getD j default).setp 0 := fun l => by
    simp only [List.getD_eq_getElem?_getD, List.getElem?_map]
    cases l[j]? <;> rfl
  rw [← h1, ← h1, h2]
theorem sameN_of {a b : List Node} (hl : a.length = b.length) (h : ∀ j, j < a.length → (a.getD j default).setp 0 = (b.getD j default).setp 0) : sameN a b = true := by
  refine decide_eq_true (List.ext_getElem (by simpa using hl) fun j h1 h2 => ?_)
  have h1' : j < a.length := by simpa using h1
  have h2' : j < b.length := by simpa using h2
  have := h j h1'
  simp only [List.getD_eq_getElem?_getD, List.getElem?_eq_getElem h1', List.getElem?_eq_getElem h2', Option.getD_some] at this
  simpa using this
def Hd.setp (p : Int) (x : Hd) : Hd := ⟨x.kind, x.n, p⟩
def Ex.setp (p : Int) : Ex → Ex
  | .leaf x => .leaf (x.setp p)
  | .un x e => .un (x.setp p) (e.setp p)
  | .bin x e f => .bin (x.setp p) (e.setp p) (f.setp p)
theorem Ex.setp_sz (p : Int) : ∀ e : Ex, (e.setp p).sz = e.sz
  | .leaf x => rfl
  | .un x e => by simp [Ex.setp, Ex.sz, e.setp_sz p]
  | .bin x e f => by simp [Ex.setp, Ex.sz, e.setp_sz p, f.setp_sz p]
theorem Ex.setp_fl (p : Int) : ∀ (e : Ex) (o : Nat), (e.setp p).fl o = (e.fl o).map (Node.setp p)
  | .leaf x, o => rfl
  | .un x e, o => by simp only [Ex.setp, Ex.fl, e.setp_fl p, e.setp_sz p, List.map_append]; rfl
  | .bin x e f, o => by simp only [Ex.setp, Ex.fl, e.setp_fl p, f.setp_fl p, e.setp_sz p, f.setp_sz p, List.map_append]; rfl
theorem Hd.ok.setp {x : Hd} (h : x.ok) {p : Int} (h1 : 0 ≤ p) (h2 : p ≤ 400) : (x.setp p).ok := ⟨h.k1, h.k2, h.n0, h.n1, h1, h2⟩
theorem Ex.setp_wf {p : Int} (h1 : 0 ≤ p) (h2 : p ≤ 400) : ∀ e : Ex, e.wf → (e.setp p).wf
  | .leaf x, h => ⟨h.1.setp h1 h2, h.2⟩
  | .un x e, h => ⟨h.1.setp h1 h2, h.2.1, h.2.2.1, e.setp_wf h1 h2 h.2.2.2⟩
  | .bin x e f, h => ⟨h.1.setp h1 h2, h.2.1, e.setp_wf h1 h2 h.2.2.1, f.setp_wf h1 h2 h.2.2.2⟩
theorem IsEx.setp {l : List Node} {e : Ex} (h : IsEx l e) {p : Int} (h1 : 0 ≤ p) (h2 : p ≤ 400) : IsEx (l.map (Node.setp p)) (e.setp p) :=
  ⟨e.setp_wf h1 h2 h.1, by rw [h.2, e.setp_fl]⟩
theorem Ex.hds : ∀ (e : Ex) (o : Nat), e.wf → ∀ x ∈ e.fl o, x.hd.ok
  | .leaf x, o, hw, y, hy => by simp [Ex.fl] at hy; subst hy; exact hw.1
  | .un x e, o, hw, y, hy => by
    simp only [Ex.fl, List.mem_append, List.mem_singleton] at hy
    rcases hy with hy | rfl
    · exact e.hds o hw.2.2.2 y hy
    · exact hw.1
  | .bin x e f, o, hw, y, hy => by
    simp only [Ex.fl, List.mem_append, List.mem_singleton] at hy
    rcases hy with (hy | hy) | rfl
    · exact e.hds o hw.2.2.1 y hy
    · exact f.hds _ hw.2.2.2 y hy
    · exact hw.1
theorem IsEx.hd {l : List Node} {e : Ex} (h : IsEx l e) : ∀ x ∈ l, x.hd.ok := fun x hx => e.hds 0 h.1 x (h.2 ▸ hx)
end Go.Proofs.Yteohklfoggiojaa
