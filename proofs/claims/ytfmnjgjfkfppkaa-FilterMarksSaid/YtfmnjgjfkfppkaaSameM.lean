/-
  Expressions that are the same but for where they stand. Plain Lean: no program in sight.
-/
import Derived.Test.YtfmnjgjfkfppkaaSubM
namespace Go.Proofs.Ytfmnjgjfkfppkaa
open Go.AL
set_option linter.unusedSimpArgs false
set_option linter.unusedVariables false

def Node.setp (p : Int) (x : Node) : Node := ⟨x.kind, x.n, x.a, x.b, p⟩
/-- two lists of nodes, but for where they stand -/
def sameN (a b : List Node) : Bool := decide (a.map (Node.setp 0) = b.map (Node.setp 0))
theorem sameN_comm (a b : List Node) : sameN a b = sameN b a := by unfold sameN; exact decide_eq_decide.2 eq_comm
theorem sameN_len {a b : List Node} (h : sameN a b = true) : a.length = b.length := by
  have := congrArg List.length (of_decide_eq_true h); simpa using this
theorem sameN_at {a b : List Node} (h : sameN a b = true) (j : Nat) : (a.getD j default).setp 0 = (b.getD j default).setp 0 := by
  have h2 := of_decide_eq_true h
  have h1 : ∀ l : List Node, (l.map (Node.setp 0)).getD j default = (l.getD j default).setp 0 := fun l => by
    simp only [List.getD_eq_getElem?_getD, List.getElem?_map]
    cases l[j]? <;> rfl
  rw [← h1, ← h1, h2]
theorem sameN_of {a b : List Node} (hl : a.length = b.length) (h : ∀ j, j < a.length → (a.getD j default).setp 0 = (b.getD j default).setp 0) : sameN a b = true := by
  refine decide_eq_true (List.ext_getElem (by simpa using hl) fun j h1 h2 => ?_)
  have h1' : j < a.length := by simpa using h1
  have h2' : j < b.length := by simpa using h2
  have := h j h1'
  simp only [List.getD_eq_getElem?_getD, List.getElem?_eq_getElem h1', List.getElem?_eq_getElem h2', Option.getD_some] at this
  simpa using this
theorem sameN_setp (a : List Node) (p : Int) : sameN a (a.map (Node.setp p)) = true := by
  unfold sameN; simp [Function.comp_def, Node.setp]
/-- the kinds tell the rest -/
theorem step_det {sd r1 r2 : List Nat × List Nat} {x y : Node} (hk : x.kind = y.kind) (h1 : stepN sd x = some r1) (h2 : stepN sd y = some r2) : r1 = r2 ∧ x.a = y.a ∧ x.b = y.b := by
  unfold stepN at h1 h2
  simp only [hk] at h1 h2
  split at h1
  · rename_i k4
    rw [if_pos k4] at h2
    split at h1
    · split at h2
      · rename_i e1 e2
        have := (rightB_iff _ _ _).1 e1; have := (rightB_iff _ _ _).1 e2
        simp_all
      · cases h2
    · cases h1
  · rename_i k4
    rw [if_neg k4] at h2
    split at h1
    · cases h1
    · rename_i h0
      rw [if_neg h0] at h2
      split at h1
      · rename_i k6
        rw [if_pos k6] at h2
        split at h1
        · split at h2
          · rename_i e1 e2
            have := (rightB_iff _ _ _).1 e1; have := (rightB_iff _ _ _).1 e2
            simp_all
          · cases h2
        · cases h1
      · rename_i k6
        rw [if_neg k6] at h2
        split at h1
        · cases h1
        · rename_i h3
          rw [if_neg h3] at h2
          split at h1
          · split at h2
            · rename_i e1 e2
              have := (rightB_iff _ _ _).1 e1; have := (rightB_iff _ _ _).1 e2
              simp_all
            · cases h2
          · cases h1
theorem fold_det : ∀ (l m : List Node) (sd r1 r2 : List Nat × List Nat), l.map Node.kind = m.map Node.kind → l.foldlM stepN sd = some r1 → m.foldlM stepN sd = some r2 → r1 = r2 ∧ l.map Node.a = m.map Node.a ∧ l.map Node.b = m.map Node.b
  | [], m, sd, r1, r2, hk, h1, h2 => by
    cases m with
    | nil => simp at h1 h2; subst h1; subst h2; simp
    | cons y m => simp at hk
  | x :: l, m, sd, r1, r2, hk, h1, h2 => by
    cases m with
    | nil => simp at hk
    | cons y m =>
      simp only [List.map_cons, List.cons.injEq] at hk
      simp only [List.foldlM_cons, Option.bind_eq_bind] at h1 h2
      cases e1 : stepN sd x with
      | none => rw [e1] at h1; cases h1
      | some s1 =>
        cases e2 : stepN sd y with
        | none => rw [e2] at h2; cases h2
        | some s2 =>
          rw [e1, Option.bind_some] at h1
          rw [e2, Option.bind_some] at h2
          obtain ⟨rfl, ha, hb⟩ := step_det hk.1 e1 e2
          obtain ⟨h3, h4, h5⟩ := fold_det l m s1 r1 r2 hk.2 h1 h2
          exact ⟨h3, by simp [ha, h4], by simp [hb, h5]⟩
theorem IsEx.det {l m : List Node} {e f : Ex} (h : IsEx l e) (k : IsEx m f) (hk : l.map Node.kind = m.map Node.kind) : e.szs = f.szs ∧ e.dp = f.dp ∧ l.map Node.a = m.map Node.a ∧ l.map Node.b = m.map Node.b := by
  obtain ⟨h1, h2, h3⟩ := fold_det l m _ _ _ hk h.sizes k.sizes
  simp only [Prod.mk.injEq] at h1
  have : e.sz = f.sz := by rw [← h.len, ← k.len]; simpa using congrArg List.length hk
  refine ⟨h1.1, ?_, h2, h3⟩
  rw [← e.dps_end, ← f.dps_end, h1.2, this]
theorem sameN_kinds {a b : List Node} (h : sameN a b = true) : a.map Node.kind = b.map Node.kind := by
  have := congrArg (List.map Node.kind) (of_decide_eq_true h)
  simpa [Function.comp_def, Node.setp] using this
/-- somewhere else -/
def Hd.setp (p : Int) (x : Hd) : Hd := ⟨x.kind, x.n, p⟩
def Ex.setp (p : Int) : Ex → Ex
  | .leaf x => .leaf (x.setp p)
  | .un x e => .un (x.setp p) (e.setp p)
  | .bin x e f => .bin (x.setp p) (e.setp p) (f.setp p)
theorem Ex.setp_sz (p : Int) : ∀ e : Ex, (e.setp p).sz = e.sz
  | .leaf x => rfl
  | .un x e => by simp [Ex.setp, Ex.sz, e.setp_sz p]
  | .bin x e f => by simp [Ex.setp, Ex.sz, e.setp_sz p, f.setp_sz p]
theorem Ex.setp_dp (p : Int) : ∀ e : Ex, (e.setp p).dp = e.dp
  | .leaf x => rfl
  | .un x e => by simp [Ex.setp, Ex.dp, e.setp_dp p]
  | .bin x e f => by simp [Ex.setp, Ex.dp, e.setp_dp p, f.setp_dp p]
theorem Ex.setp_fl (p : Int) : ∀ (e : Ex) (o : Nat), (e.setp p).fl o = (e.fl o).map (Node.setp p)
  | .leaf x, o => rfl
  | .un x e, o => by simp only [Ex.setp, Ex.fl, e.setp_fl p, e.setp_sz p, List.map_append]; rfl
  | .bin x e f, o => by simp only [Ex.setp, Ex.fl, e.setp_fl p, f.setp_fl p, e.setp_sz p, f.setp_sz p, List.map_append]; rfl
theorem Hd.ok.setp {x : Hd} (h : x.ok) {p : Int} (h1 : 0 ≤ p) (h2 : p ≤ 400) : (x.setp p).ok := ⟨h.k1, h.k2, h.n0, h.n1, h1, h2⟩
theorem Ex.setp_wf {p : Int} (h1 : 0 ≤ p) (h2 : p ≤ 400) : ∀ e : Ex, e.wf → (e.setp p).wf
  | .leaf x, h => ⟨h.1.setp h1 h2, h.2⟩
  | .un x e, h => ⟨h.1.setp h1 h2, h.2.1, h.2.2.1, e.setp_wf h1 h2 h.2.2.2⟩
  | .bin x e f, h => ⟨h.1.setp h1 h2, h.2.1, e.setp_wf h1 h2 h.2.2.1, f.setp_wf h1 h2 h.2.2.2⟩
theorem IsEx.setp {l : List Node} {e : Ex} (h : IsEx l e) {p : Int} (h1 : 0 ≤ p) (h2 : p ≤ 400) : IsEx (l.map (Node.setp p)) (e.setp p) :=
  ⟨e.setp_wf h1 h2 h.1, by rw [h.2, e.setp_fl]⟩
/-- each node of an expression is right -/
theorem Ex.hds : ∀ (e : Ex) (o : Nat), e.wf → ∀ x ∈ e.fl o, x.hd.ok
  | .leaf x, o, hw, y, hy => by simp [Ex.fl] at hy; subst hy; exact hw.1
  | .un x e, o, hw, y, hy => by
    simp only [Ex.fl, List.mem_append, List.mem_singleton] at hy
    rcases hy with hy | rfl
    · exact e.hds o hw.2.2.2 y hy
    · exact hw.1
  | .bin x e f, o, hw, y, hy => by
    simp only [Ex.fl, List.mem_append, List.mem_singleton] at hy
    rcases hy with (hy | hy) | rfl
    · exact e.hds o hw.2.2.1 y hy
    · exact f.hds _ hw.2.2.2 y hy
    · exact hw.1
theorem IsEx.hd {l : List Node} {e : Ex} (h : IsEx l e) : ∀ x ∈ l, x.hd.ok := fun x hx => e.hds 0 h.1 x (h.2 ▸ hx)
theorem errL_none {l : List Node} (h60 : l.length ≤ 60) (h : treeO l = none) : errL l = 8 := by unfold errL; rw [if_neg (by omega), h]
/-- no expression -/
theorem errL_bad {l : List Node} (h60 : l.length ≤ 60) (h : ∀ e, ¬ IsEx l e) : errL l = 8 := by
  cases ht : treeO l with
  | none => exact errL_none h60 ht
  | some e => exact absurd (treeO_some ht) (h e)
end Go.Proofs.Ytfmnjgjfkfppkaa
