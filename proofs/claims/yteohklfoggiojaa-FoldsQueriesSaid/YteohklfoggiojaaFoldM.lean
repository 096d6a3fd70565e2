/-
  Folding, in plain Lean: no program in sight.
-/
import Derived.Test.YteohklfoggiojaaPltM
import Derived.Test.YteohklfoggiojaaMadeM
namespace Go.Proofs.Yteohklfoggiojaa
open Go.AL
set_option linter.unusedSimpArgs false
set_option linter.unusedVariables false
def Ex.subE : Ex → Nat → Ex
  | .leaf x, _ => .leaf x
  | .un x g, j => if j < g.sz then g.subE j else .un x g
  | .bin x g k, j => if j < g.sz then g.subE j else if j < g.sz + k.sz then k.subE (j - g.sz) else .bin x g k
theorem Ex.subE_sub : ∀ (e : Ex) (o j : Nat), j < e.sz → e.wf → ∃ pre post sp st, Sub e o j (e.subE j) pre post sp st
  | .leaf x, o, j, hj, hw => ⟨[], [], [], [], by simp [Ex.subE], by simp [Ex.subE], rfl, by simp [Ex.sz, Ex.subE] at hj ⊢; omega, hw, Nat.le_refl _⟩
  | .un x e, o, j, hj, hw => by
    unfold Ex.subE
    by_cases h : j < e.sz
    · obtain ⟨pre, post, sp, st, H⟩ := e.subE_sub o j h hw.2.2.2
      rw [if_pos h]
      exact ⟨pre, post ++ [x.node ((o + e.sz - 1 : Nat) : Int) 0], sp, st ++ [e.sz + 1], by rw [Ex.fl, H.fl]; simp, by rw [Ex.szs, H.szs]; simp, H.len, H.pos, H.wf, by have := H.dp; simp [Ex.dp]; omega⟩
    · rw [if_neg h]
      exact ⟨[], [], [], [], by simp, by simp, rfl, by simp [Ex.sz] at hj ⊢; omega, hw, Nat.le_refl _⟩
  | .bin x e g, o, j, hj, hw => by
    unfold Ex.subE
    by_cases h : j < e.sz
    · obtain ⟨pre, post, sp, st, H⟩ := e.subE_sub o j h hw.2.2.1
      rw [if_pos h]
      exact ⟨pre, post ++ g.fl (o + e.sz) ++ [x.node ((o + e.sz - 1 : Nat) : Int) ((o + e.sz + g.sz - 1 : Nat) : Int)], sp, st ++ g.szs ++ [e.sz + g.sz + 1], by rw [Ex.fl, H.fl]; simp, by rw [Ex.szs, H.szs]; simp, H.len, H.pos, H.wf, by have := H.dp; simp [Ex.dp]; omega⟩
    · rw [if_neg h]
      by_cases h2 : j < e.sz + g.sz
      · obtain ⟨pre, post, sp, st, H⟩ := g.subE_sub (o + e.sz) (j - e.sz) (by omega) hw.2.2.2
        rw [if_pos h2]
        refine ⟨e.fl o ++ pre, post ++ [x.node ((o + e.sz - 1 : Nat) : Int) ((o + e.sz + g.sz - 1 : Nat) : Int)], e.szs ++ sp, st ++ [e.sz + g.sz + 1], ?_, by rw [Ex.szs, H.szs]; simp, ?_, ?_, H.wf, by have := H.dp; simp [Ex.dp]; omega⟩
        · rw [Ex.fl, H.fl, List.length_append, e.fl_length]; simp [Nat.add_assoc]
        · rw [List.length_append, List.length_append, e.szs_length, e.fl_length, H.len]
        · have := H.pos
          rw [List.length_append, e.fl_length]; omega
      · rw [if_neg h2]
        exact ⟨[], [], [], [], by simp, by simp, rfl, by simp [Ex.sz] at hj ⊢; omega, hw, Nat.le_refl _⟩
theorem Ex.subE_end (e : Ex) : e.subE (e.sz - 1) = e := by
  cases e with
  | leaf x => rfl
  | un x g => simp [Ex.subE, Ex.sz]
  | bin x g k =>
    have := g.sz_pos
    simp only [Ex.subE, Ex.sz, Nat.add_sub_cancel]
    rw [if_neg (by omega), if_neg (by omega)]
theorem Ex.subE_right {x : Hd} {g k : Ex} {j : Nat} (hj : j < k.sz) : (Ex.bin x g k).subE (g.sz + j) = k.subE j := by
  show (if g.sz + j < g.sz then g.subE (g.sz + j) else if g.sz + j < g.sz + k.sz then k.subE (g.sz + j - g.sz) else Ex.bin x g k) = k.subE j
  rw [if_neg (by omega), if_pos (by omega), Nat.add_sub_cancel_left]
theorem Ex.subE_un : ∀ {e : Ex} {j : Nat} {x : Hd} {g : Ex}, j < e.sz → e.subE j = .un x g → 0 < j ∧ g.sz ≤ j ∧ e.subE (j - 1) = g
  | .leaf y, j, x, g, hj, h => by simp [Ex.subE] at h
  | .un y a, j, x, g, hj, h => by
    have ha := a.sz_pos
    simp only [Ex.sz] at hj
    unfold Ex.subE at h ⊢
    by_cases h1 : j < a.sz
    · rw [if_pos h1] at h
      have := Ex.subE_un h1 h
      rw [if_pos (by omega)]
      exact this
    · rw [if_neg h1] at h
      cases h
      rw [if_pos (by omega), show j - 1 = a.sz - 1 by omega, a.subE_end]
      exact ⟨by omega, by omega, rfl⟩
  | .bin y a b, j, x, g, hj, h => by
    have ha := a.sz_pos
    have hb := b.sz_pos
    simp only [Ex.sz] at hj
    unfold Ex.subE at h ⊢
    by_cases h1 : j < a.sz
    · rw [if_pos h1] at h
      have := Ex.subE_un h1 h
      rw [if_pos (by omega)]
      exact this
    · rw [if_neg h1] at h
      by_cases h2 : j < a.sz + b.sz
      · rw [if_pos h2] at h
        have := Ex.subE_un (by omega) h
        rw [if_neg (by omega), if_pos (by omega), show j - 1 - a.sz = j - a.sz - 1 by omega]
        exact ⟨by omega, by omega, this.2.2⟩
      · rw [if_neg h2] at h
        cases h
theorem Ex.subE_bin : ∀ {e : Ex} {j : Nat} {x : Hd} {g k : Ex}, j < e.sz → e.subE j = .bin x g k → g.sz + k.sz ≤ j ∧ e.subE (j - 1) = k ∧ e.subE (j - 1 - k.sz) = g
  | .leaf y, j, x, g, k, hj, h => by simp [Ex.subE] at h
  | .un y a, j, x, g, k, hj, h => by
    have ha := a.sz_pos
    simp only [Ex.sz] at hj
    unfold Ex.subE at h ⊢
    by_cases h1 : j < a.sz
    · rw [if_pos h1] at h
      have := Ex.subE_bin h1 h
      have := g.sz_pos
      rw [if_pos (by omega), if_pos (by omega)]
      assumption
    · rw [if_neg h1] at h
      cases h
  | .bin y a b, j, x, g, k, hj, h => by
    have ha := a.sz_pos
    have hb := b.sz_pos
    simp only [Ex.sz] at hj
    unfold Ex.subE at h ⊢
    by_cases h1 : j < a.sz
    · rw [if_pos h1] at h
      have := Ex.subE_bin h1 h
      have := g.sz_pos
      rw [if_pos (by omega), if_pos (by omega)]
      assumption
    · rw [if_neg h1] at h
      by_cases h2 : j < a.sz + b.sz
      · rw [if_pos h2] at h
        have H := Ex.subE_bin (by omega) h
        have := g.sz_pos
        have := k.sz_pos
        rw [if_neg (by omega), if_pos (by omega), if_neg (by omega), if_pos (by omega), show j - 1 - a.sz = j - a.sz - 1 by omega, show j - 1 - k.sz - a.sz = j - a.sz - 1 - k.sz by omega]
        exact ⟨by omega, H.2⟩
      · rw [if_neg h2] at h
        cases h
        rw [if_neg (by omega), if_pos (by omega), if_pos (by omega), show j - 1 - a.sz = b.sz - 1 by omega, b.subE_end, show j - 1 - b.sz = a.sz - 1 by omega, a.subE_end]
        exact ⟨by omega, rfl, rfl⟩
def Ex.nodeA (j : Nat) : Ex → Node
  | .leaf x => x.node 0 0
  | .un x _ => x.node ((j - 1 : Nat) : Int) 0
  | .bin x _ k => x.node ((j - 1 - k.sz : Nat) : Int) ((j - 1 : Nat) : Int)
theorem Ex.node_at : ∀ (e : Ex) (o j : Nat), j < e.sz → (e.fl o).getD j default = (e.subE j).nodeA (o + j)
  | .leaf x, o, j, hj => by simp [Ex.sz] at hj; subst hj; rfl
  | .un x g, o, j, hj => by
    have hg := g.sz_pos
    simp only [Ex.sz] at hj
    simp only [Ex.fl, Ex.subE]
    by_cases h : j < g.sz
    · rw [if_pos h, getD_left (by rw [g.fl_length]; exact h), g.node_at o j h]
    · rw [if_neg h, getD_right (by rw [g.fl_length]; omega), g.fl_length, show j - g.sz = 0 by omega]
      simp only [List.getD_cons_zero, Ex.nodeA]
      rw [show o + g.sz - 1 = o + j - 1 by omega]
  | .bin x g k, o, j, hj => by
    have hg := g.sz_pos
    have hk := k.sz_pos
    simp only [Ex.sz] at hj
    simp only [Ex.fl, Ex.subE]
    by_cases h : j < g.sz
    · rw [if_pos h, List.append_assoc, getD_left (by rw [g.fl_length]; exact h), g.node_at o j h]
    · rw [if_neg h]
      by_cases h2 : j < g.sz + k.sz
      · rw [if_pos h2, List.append_assoc, getD_right (by rw [g.fl_length]; omega), g.fl_length, getD_left (by rw [k.fl_length]; omega), k.node_at (o + g.sz) (j - g.sz) (by omega)]
        congr 1; omega
      · rw [if_neg h2, getD_right (by rw [List.length_append, g.fl_length, k.fl_length]; omega), List.length_append, g.fl_length, k.fl_length, show j - (g.sz + k.sz) = 0 by omega]
        simp only [List.getD_cons_zero, Ex.nodeA]
        rw [show o + g.sz - 1 = o + j - 1 - k.sz by omega, show o + g.sz + k.sz - 1 = o + j - 1 by omega]
theorem Ex.nodeA_kind (j : Nat) (f : Ex) : (f.nodeA j).kind = f.hd.kind := by cases f <;> rfl
theorem Ex.nodeA_pos (j : Nat) (f : Ex) : (f.nodeA j).pos = f.hd.pos := by cases f <;> rfl
theorem Ex.subE_wf {e : Ex} {j : Nat} (hj : j < e.sz) (hw : e.wf) : (e.subE j).wf := by
  obtain ⟨_, _, _, _, H⟩ := e.subE_sub 0 j hj hw
  exact H.wf
theorem Ex.subE_sz {e : Ex} {j : Nat} (hj : j < e.sz) (hw : e.wf) : (e.subE j).sz ≤ j + 1 ∧ e.szs.getD j default = (e.subE j).sz ∧ (e.subE j).dp ≤ e.dp := by
  obtain ⟨pre, post, sp, st, H⟩ := e.subE_sub 0 j hj hw
  have := (e.subE j).sz_pos
  have h1 := H.pos
  have h2 := H.len
  refine ⟨by omega, ?_, H.dp⟩
  rw [H.szs, getD_mid sp _ st ((e.subE j).sz - 1) j (by omega) (by rw [Ex.szs_length]; omega), Ex.szs_end]
theorem Ex.subE_cut {e : Ex} {j : Nat} (hj : j < e.sz) (hw : e.wf) : cutL (e.fl 0) (j + 1 - (e.subE j).sz) (e.subE j).sz = (e.subE j).fl 0 := by
  obtain ⟨pre, post, sp, st, H⟩ := e.subE_sub 0 j hj hw
  have h1 := H.pos
  have h2 := H.fl
  rw [Nat.zero_add] at h2
  exact cut_sub h2 H.wf (by omega) rfl
/-! ### values and kinds -/
def Ex.val (r : Rcd) : Ex → Int
  | .leaf x => leafV x.kind x.n r
  | .un x g => doV x.kind (g.val r) 0
  | .bin x g k => doV x.kind (g.val r) (k.val r)
theorem Ex.val_at (r : Rcd) {e : Ex} (hw : e.wf) : ∀ j, j < e.sz → valAt r (e.fl 0) j = (e.subE j).val r := by
  intro j
  induction j using Nat.strongRecOn with
  | _ j ih =>
    intro hj
    have hn := e.node_at 0 j hj
    rw [Nat.zero_add] at hn
    have hl : j < (e.fl 0).length := by rw [e.fl_length]; exact hj
    have hwf := e.subE_wf hj hw
    cases hs : e.subE j with
    | leaf x =>
      rw [hs] at hn hwf
      rw [valAt_leaf hl (by rw [hn]; exact hwf.2), hn]; rfl
    | un x g =>
      obtain ⟨h0, h1, h2⟩ := Ex.subE_un hj hs
      rw [hs] at hn hwf
      rw [valAt_un hl (by rw [hn]; exact hwf.2.1) (by rw [hn]; exact hwf.2.2.1) (by rw [hn]; simp [Ex.nodeA, Hd.node]) (by rw [hn]; simp [Ex.nodeA, Hd.node]; omega) 0, hn]
      simp only [Ex.nodeA, Hd.node, Int.toNat_natCast, Ex.val]
      rw [ih (j - 1) (by omega) (by omega), h2]
    | bin x g k =>
      obtain ⟨h1, h2, h3⟩ := Ex.subE_bin hj hs
      have := g.sz_pos
      have := k.sz_pos
      rw [hs] at hn hwf
      rw [valAt_bin hl (by rw [hn]; have := hwf.2.1; simp only [Ex.nodeA, Hd.node]; omega) (by rw [hn]; simp [Ex.nodeA, Hd.node]) (by rw [hn]; simp [Ex.nodeA, Hd.node]; omega) (by rw [hn]; simp [Ex.nodeA, Hd.node]) (by rw [hn]; simp [Ex.nodeA, Hd.node]; omega), hn]
      simp only [Ex.nodeA, Hd.node, Int.toNat_natCast, Ex.val]
      rw [ih (j - 1) (by omega) (by omega), h2, ih (j - 1 - k.sz) (by omega) (by omega), h3]
def Ex.fit : Ex → Bool
  | .leaf _ => true
  | .un x g => fitsK x.kind (givesB g.hd.kind) true
  | .bin x g k => fitsK x.kind (givesB g.hd.kind) (givesB k.hd.kind)
def Ex.typ : Ex → Bool
  | .leaf _ => true
  | .un x g => fitsK x.kind (givesB g.hd.kind) true && g.typ
  | .bin x g k => fitsK x.kind (givesB g.hd.kind) (givesB k.hd.kind) && g.typ && k.typ
theorem Ex.typ_fit : ∀ {e : Ex}, e.typ = true → e.fit = true
  | .leaf _, _ => rfl
  | .un x g, h => by simp only [Ex.typ, Bool.and_eq_true] at h; exact h.1
  | .bin x g k, h => by simp only [Ex.typ, Bool.and_eq_true] at h; exact h.1.1
theorem Ex.typ_sub : ∀ {e : Ex}, e.typ = true → ∀ j, (e.subE j).typ = true
  | .leaf _, _, _ => rfl
  | .un x g, h, j => by
    unfold Ex.subE
    split
    · simp only [Ex.typ, Bool.and_eq_true] at h; exact Ex.typ_sub h.2 j
    · exact h
  | .bin x g k, h, j => by
    unfold Ex.subE
    split
    · simp only [Ex.typ, Bool.and_eq_true] at h; exact Ex.typ_sub h.1.2 j
    · split
      · simp only [Ex.typ, Bool.and_eq_true] at h; exact Ex.typ_sub h.2 _
      · exact h
theorem Ex.typ_of : ∀ {e : Ex}, (∀ j, j < e.sz → (e.subE j).fit = true) → e.typ = true
  | .leaf _, _ => rfl
  | .un x g, h => by
    have h1 := h g.sz (by simp [Ex.sz])
    rw [show (Ex.un x g).subE g.sz = .un x g by simp [Ex.subE]] at h1
    simp only [Ex.typ, Bool.and_eq_true]
    refine ⟨h1, Ex.typ_of fun j hj => ?_⟩
    have := h j (by simp [Ex.sz]; omega)
    rwa [show (Ex.un x g).subE j = g.subE j by simp [Ex.subE, hj]] at this
  | .bin x g k, h => by
    have h1 := h (g.sz + k.sz) (by simp [Ex.sz])
    rw [show (Ex.bin x g k).subE (g.sz + k.sz) = .bin x g k by simp [Ex.subE]; intro h; have := k.sz_pos; omega] at h1
    simp only [Ex.typ, Bool.and_eq_true]
    refine ⟨⟨h1, Ex.typ_of fun j hj => ?_⟩, Ex.typ_of fun j hj => ?_⟩
    · have := h j (by simp [Ex.sz]; omega)
      rwa [show (Ex.bin x g k).subE j = g.subE j by simp [Ex.subE, hj]] at this
    · have := h (g.sz + j) (by simp [Ex.sz]; omega)
      rwa [Ex.subE_right hj] at this
theorem Ex.kind_at {e : Ex} {j : Nat} (hj : j < e.sz) : ((e.fl 0).getD j default).kind = (e.subE j).hd.kind := by
  rw [e.node_at 0 j hj, Ex.nodeA_kind]
theorem Ex.fits_at {e : Ex} (hw : e.wf) {j : Nat} (hj : j < e.sz) : fitsAt (e.fl 0) j = (e.subE j).fit := by
  have hn := e.node_at 0 j hj
  rw [Nat.zero_add] at hn
  have hwf := e.subE_wf hj hw
  unfold fitsAt
  rw [hn]
  cases hs : e.subE j with
  | leaf x => rw [hs] at hwf; exact fitsK_leaf hwf.2 _ _
  | un x g =>
    obtain ⟨h0, h1, h2⟩ := Ex.subE_un hj hs
    rw [hs] at hwf
    simp only [Ex.nodeA, Hd.node, Ex.fit]
    have e1 : kindAt (e.fl 0) ((j - 1 : Nat) : Int) = g.hd.kind := by unfold kindAt; rw [Int.toNat_natCast, Ex.kind_at (by omega), h2]
    rw [e1]
    exact fitsK_un hwf.2.2.1 _ _ _
  | bin x g k =>
    obtain ⟨h1, h2, h3⟩ := Ex.subE_bin hj hs
    have := g.sz_pos
    simp only [Ex.nodeA, Hd.node, Ex.fit]
    have e1 : kindAt (e.fl 0) ((j - 1 : Nat) : Int) = k.hd.kind := by unfold kindAt; rw [Int.toNat_natCast, Ex.kind_at (by omega), h2]
    have e2 : kindAt (e.fl 0) ((j - 1 - k.sz : Nat) : Int) = g.hd.kind := by unfold kindAt; rw [Int.toNat_natCast, Ex.kind_at (by omega), h3]
    rw [e1, e2]
theorem Ex.typ_iff {e : Ex} (hw : e.wf) : wrongL (e.fl 0) = (e.fl 0).length ↔ e.typ = true := by
  constructor
  · intro h
    refine Ex.typ_of fun j hj => ?_
    rw [← Ex.fits_at hw hj]
    exact wrongL_fits (by rw [h, e.fl_length]; exact hj)
  · intro h
    refine wrongL_all fun j hj => ?_
    rw [e.fl_length] at hj
    rw [Ex.fits_at hw hj]
    exact Ex.typ_fit (Ex.typ_sub h j)
/-! ### constant parts -/
def Ex.fixed : Ex → Bool
  | .leaf x => decide (x.kind = 1)
  | .un _ g => g.fixed
  | .bin _ g k => g.fixed && k.fixed
def fixL (l : List Node) : Bool := !(l.any fun x => decide (1 < x.kind) && decide (x.kind < 5))
theorem Ex.fixL_fl : ∀ (e : Ex) (o : Nat), e.wf → fixL (e.fl o) = e.fixed
  | .leaf x, o, h => by
    have := h.1.k1
    have := h.2
    simp only [fixL, Ex.fl, Hd.node, List.any_cons, List.any_nil, Bool.or_false, Ex.fixed]
    by_cases h1 : x.kind = 1
    · simp [h1]
    · rw [decide_eq_true (show 1 < x.kind by omega), decide_eq_true (show x.kind < 5 by omega), decide_eq_false h1]; rfl
  | .un x g, o, h => by
    have := g.fixL_fl o h.2.2.2
    have h1 := h.2.1
    unfold fixL at this ⊢
    simp only [Ex.fl, List.any_append, Bool.not_or, this, List.any_cons, List.any_nil, Hd.node, Ex.fixed]
    rw [decide_eq_false (show ¬ x.kind < 5 by omega)]; simp
  | .bin x g k, o, h => by
    have e1 := g.fixL_fl o h.2.2.1
    have e2 := k.fixL_fl (o + g.sz) h.2.2.2
    have h1 := h.2.1
    unfold fixL at e1 e2 ⊢
    simp only [Ex.fl, List.any_append, Bool.not_or, e1, e2, List.any_cons, List.any_nil, Hd.node, Ex.fixed]
    rw [decide_eq_false (show ¬ x.kind < 5 by omega)]; simp
theorem Ex.fixed_val : ∀ {e : Ex}, e.fixed = true → ∀ r s : Rcd, e.val r = e.val s
  | .leaf x, h, r, s => by simp only [Ex.fixed, decide_eq_true_eq] at h; simp [Ex.val, leafV, h]
  | .un x g, h, r, s => by simp only [Ex.val]; rw [Ex.fixed_val (e := g) h r s]
  | .bin x g k, h, r, s => by
    simp only [Ex.fixed, Bool.and_eq_true] at h
    simp only [Ex.val]; rw [Ex.fixed_val h.1 r s, Ex.fixed_val h.2 r s]
def Ex.nB : Ex → Prop
  | .leaf x => i64B x.n
  | .un _ g => g.nB
  | .bin _ g k => g.nB ∧ k.nB
theorem Ex.nB_of : ∀ (e : Ex) (o : Nat), (∀ x ∈ e.fl o, i64B x.n) → e.nB
  | .leaf x, o, h => h (x.node 0 0) (by simp [Ex.fl])
  | .un x g, o, h => g.nB_of o fun y hy => h y (by simp [Ex.fl, hy])
  | .bin x g k, o, h => ⟨g.nB_of o fun y hy => h y (by simp [Ex.fl, hy]), k.nB_of (o + g.sz) fun y hy => h y (by simp [Ex.fl, hy])⟩
theorem Ex.nB_fl : ∀ (e : Ex) (o : Nat), e.wf → e.nB → ∀ x ∈ e.fl o, i64B x.n
  | .leaf x, o, hw, h, y, hy => by simp [Ex.fl] at hy; subst hy; exact h
  | .un x g, o, hw, h, y, hy => by
    simp only [Ex.fl, List.mem_append, List.mem_singleton] at hy
    rcases hy with hy | rfl
    · exact g.nB_fl o hw.2.2.2 h y hy
    · have := hw.1.n1
      have := hw.2.1
      show i64B x.n
      rw [show x.n = 0 by omega]; exact ⟨by decide, by decide⟩
  | .bin x g k, o, hw, h, y, hy => by
    simp only [Ex.fl, List.mem_append, List.mem_singleton] at hy
    rcases hy with (hy | hy) | rfl
    · exact g.nB_fl o hw.2.2.1 h.1 y hy
    · exact k.nB_fl _ hw.2.2.2 h.2 y hy
    · have := hw.1.n1
      have := hw.2.1
      show i64B x.n
      rw [show x.n = 0 by omega]; exact ⟨by decide, by decide⟩
theorem Ex.nB_sub : ∀ {e : Ex}, e.nB → ∀ j, (e.subE j).nB
  | .leaf _, h, _ => h
  | .un x g, h, j => by
    unfold Ex.subE
    split
    · exact Ex.nB_sub (e := g) h j
    · exact h
  | .bin x g k, h, j => by
    unfold Ex.subE
    split
    · exact Ex.nB_sub h.1 j
    · split
      · exact Ex.nB_sub h.2 _
      · exact h
theorem Ex.val_B {r : Rcd} (hr : r.B) : ∀ {e : Ex}, e.nB → i64B (e.val r)
  | .leaf x, h => by
    unfold Ex.val leafV
    obtain ⟨h1, h2, h3⟩ := hr
    split
    · exact h
    · split
      · exact h1
      · split
        · exact h2
        · exact h3
  | .un x g, h => doV_B (Ex.val_B hr (e := g) h)
  | .bin x g k, h => doV_B (Ex.val_B hr h.1)
theorem Ex.val_truth (r : Rcd) {e : Ex} (hw : e.wf) (hg : givesB e.hd.kind = true) : e.val r = 0 ∨ e.val r = 1 := by
  cases e with
  | leaf x =>
    exfalso
    have := hw.2
    unfold givesB Ex.hd at hg
    simp only [Bool.or_eq_true, decide_eq_true_eq] at hg
    omega
  | un x g => exact doV_truth hg hw.1.k2
  | bin x g k => exact doV_truth hg hw.1.k2
theorem Ex.hd_ok {e : Ex} (hw : e.wf) : e.hd.ok := by
  cases e with
  | leaf x => exact hw.1
  | un x g => exact hw.1
  | bin x g k => exact hw.1
/-! ### folded forms -/
def rc0 : Rcd := ⟨0, 0, 0⟩
theorem rc0_B : rc0.B := ⟨⟨by decide, by decide⟩, ⟨by decide, by decide⟩, ⟨by decide, by decide⟩⟩
def numE (x p : Int) : Ex := .leaf ⟨1, x, p⟩
def formE (x : Int) (t : Bool) (p : Int) : Option Ex :=
  if t = true then some (.bin ⟨if x = 0 then 17 else 16, 0, p⟩ (numE 0 p) (numE 0 p))
  else if 0 ≤ x then some (numE x p)
  else if -9223372036854775808 < x then some (.un ⟨5, 0, p⟩ (numE (-x) p)) else none
def frm (e : Ex) : Option Ex := if e.fixed = true then formE (e.val rc0) (givesB e.hd.kind) e.hd.pos else none
def foldE : Ex → Ex
  | .leaf x => (frm (.leaf x)).getD (.leaf x)
  | .un x g => (frm (.un x g)).getD (.un x (foldE g))
  | .bin x g k => (frm (.bin x g k)).getD (.bin x (foldE g) (foldE k))
theorem foldE_some {e g : Ex} (h : frm e = some g) : foldE e = g := by cases e <;> simp [foldE, h]
theorem frm_fixed {e g : Ex} (h : frm e = some g) : e.fixed = true ∧ formE (e.val rc0) (givesB e.hd.kind) e.hd.pos = some g := by
  unfold frm at h
  split at h
  · exact ⟨by assumption, h⟩
  · cases h
theorem truth_big : ∀ {e : Ex}, e.wf → e.typ = true → givesB e.hd.kind = true → 3 ≤ e.sz ∧ 2 ≤ e.dp
  | .leaf x, hw, ht, hg => by
    exfalso
    have := hw.2
    unfold givesB Ex.hd at hg
    simp only [Bool.or_eq_true, decide_eq_true_eq] at hg
    omega
  | .un x g, hw, ht, hg => by
    have h6 : x.kind = 6 := by
      have := hw.2.2.1
      unfold givesB Ex.hd at hg
      simp only [Bool.or_eq_true, decide_eq_true_eq] at hg
      omega
    simp only [Ex.typ, Bool.and_eq_true] at ht
    have hgg : givesB g.hd.kind = true := by
      have := ht.1
      unfold fitsK at this
      rw [h6] at this
      simpa using this
    have := truth_big hw.2.2.2 ht.2 hgg
    simp only [Ex.sz, Ex.dp]; omega
  | .bin x g k, hw, ht, hg => by
    have := g.sz_pos
    have := k.sz_pos
    have := g.dp_pos
    have := k.dp_pos
    simp only [Ex.sz, Ex.dp]; omega
structure Same (e g : Ex) : Prop where
  wf : g.wf
  sz : g.sz ≤ e.sz
  dp : g.dp ≤ e.dp
  typ : g.typ = true
  nB : g.nB
  gives : givesB g.hd.kind = givesB e.hd.kind
  pos : g.hd.pos = e.hd.pos
  val : ∀ r, g.val r = e.val r
  fixed : g.fixed = e.fixed
theorem neg_w64 {x : Int} (h : i64B x) : w64 (0 - (-x)) = x := by
  rw [show (0 : Int) - (-x) = x by omega]
  exact w64_id h
theorem frm_same {e g : Ex} (hw : e.wf) (ht : e.typ = true) (hn : e.nB) (h : frm e = some g) : Same e g := by
  obtain ⟨hf, hs⟩ := frm_fixed h
  have hok := Ex.hd_ok hw
  have p0 := hok.p0
  have p1 := hok.p1
  have hv := fun r => Ex.fixed_val hf r rc0
  have hB := Ex.val_B rc0_B hn
  have hb0 : i64B 0 := ⟨by decide, by decide⟩
  have hnum : ∀ x : Int, 0 ≤ x → (numE x e.hd.pos).wf := fun x hx => ⟨⟨by show (1 : Int) ≤ 1; decide, by show (1 : Int) ≤ 19; decide, hx, .inr rfl, p0, p1⟩, by show (1 : Int) ≤ 4; decide⟩
  unfold formE at hs
  split at hs
  · rename_i hg
    have hbig := truth_big hw ht hg
    have htr := Ex.val_truth rc0 hw hg
    cases hs
    generalize Ex.val rc0 e = v at *
    refine ⟨⟨⟨?_, ?_, by show (0 : Int) ≤ 0; decide, .inl rfl, p0, p1⟩, ?_, hnum 0 (by decide), hnum 0 (by decide)⟩, hbig.1, hbig.2, ?_, ⟨hb0, hb0⟩, ?_, rfl, fun r => ?_, ?_⟩
    · show (1 : Int) ≤ if v = 0 then 17 else 16
      split <;> decide
    · show (if v = 0 then 17 else 16 : Int) ≤ 19
      split <;> decide
    · show (6 : Int) < if v = 0 then 17 else 16
      split <;> decide
    · show (fitsK (if v = 0 then 17 else 16) _ _ && _ && _) = true
      split <;> rfl
    · rw [hg]
      show givesB (if v = 0 then 17 else 16) = true
      split <;> rfl
    · rw [hv r]
      show doV (if v = 0 then 17 else 16) (leafV 1 0 r) (leafV 1 0 r) = v
      rcases htr with rfl | rfl
      · rfl
      · rfl
    · rw [hf]; rfl
  · rename_i hg
    have hg : givesB e.hd.kind = false := by simpa using hg
    split at hs
    · rename_i h0
      cases hs
      refine ⟨hnum _ h0, e.sz_pos, e.dp_pos, rfl, hB, by rw [hg]; rfl, rfl, fun r => by rw [hv r]; rfl, by rw [hf]; rfl⟩
    · rename_i h0
      split at hs
      · rename_i h1
        cases hs
        have hbig : 2 ≤ e.sz ∧ 2 ≤ e.dp := by
          cases e with
          | leaf x =>
            exfalso
            simp only [Ex.fixed, decide_eq_true_eq] at hf
            have := hw.1.n0
            simp only [Ex.val, leafV, hf, if_true] at h0
            omega
          | un x g => have := g.sz_pos; have := g.dp_pos; simp only [Ex.sz, Ex.dp]; omega
          | bin x g k => have := g.sz_pos; have := g.dp_pos; simp only [Ex.sz, Ex.dp]; omega
        refine ⟨⟨⟨by show (1 : Int) ≤ 5; decide, by show (5 : Int) ≤ 19; decide, by show (0 : Int) ≤ 0; decide, .inl rfl, p0, p1⟩, by show (4 : Int) < 5; decide, by show (5 : Int) ≤ 6; decide, hnum _ (by omega)⟩, hbig.1, hbig.2, rfl, ?_, by rw [hg]; rfl, rfl, fun r => ?_, by rw [hf]; rfl⟩
        · show i64B (-Ex.val rc0 e)
          unfold i64B at hB ⊢; omega
        · rw [hv r]
          exact neg_w64 hB
      · cases hs
theorem foldE_same : ∀ {e : Ex}, e.wf → e.typ = true → e.nB → Same e (foldE e) := by
  intro e
  induction e with
  | leaf x =>
    intro hw ht hn
    cases h : frm (.leaf x) with
    | some g => rw [foldE_some h]; exact frm_same hw ht hn h
    | none => simp only [foldE, h, Option.getD_none]; exact ⟨hw, Nat.le_refl _, Nat.le_refl _, ht, hn, rfl, rfl, fun _ => rfl, rfl⟩
  | un x g ih =>
    intro hw ht hn
    cases h : frm (.un x g) with
    | some g' => rw [foldE_some h]; exact frm_same hw ht hn h
    | none =>
      simp only [foldE, h, Option.getD_none]
      simp only [Ex.typ, Bool.and_eq_true] at ht
      have H := ih hw.2.2.2 ht.2 hn
      refine ⟨⟨hw.1, hw.2.1, hw.2.2.1, H.wf⟩, ?_, ?_, ?_, H.nB, rfl, rfl, fun r => ?_, H.fixed⟩
      · have := H.sz; simp only [Ex.sz]; omega
      · have := H.dp; simp only [Ex.dp]; omega
      · simp only [Ex.typ, H.gives, H.typ, ht.1, Bool.and_self]
      · simp only [Ex.val, H.val]
  | bin x g k ih1 ih2 =>
    intro hw ht hn
    cases h : frm (.bin x g k) with
    | some g' => rw [foldE_some h]; exact frm_same hw ht hn h
    | none =>
      simp only [foldE, h, Option.getD_none]
      simp only [Ex.typ, Bool.and_eq_true] at ht
      have H := ih1 hw.2.2.1 ht.1.2 hn.1
      have K := ih2 hw.2.2.2 ht.2 hn.2
      refine ⟨⟨hw.1, hw.2.1, H.wf, K.wf⟩, ?_, ?_, ?_, ⟨H.nB, K.nB⟩, rfl, rfl, fun r => ?_, ?_⟩
      · have := H.sz; have := K.sz; simp only [Ex.sz]; omega
      · have := H.dp; have := K.dp; simp only [Ex.dp]; omega
      · simp only [Ex.typ, H.gives, H.typ, K.gives, K.typ, ht.1.1, Bool.and_self]
      · simp only [Ex.val, H.val, K.val]
      · simp only [Ex.fixed, H.fixed, K.fixed]
theorem frm_congr {e g : Ex} (h1 : g.fixed = e.fixed) (h2 : ∀ r, g.val r = e.val r) (h3 : givesB g.hd.kind = givesB e.hd.kind) (h4 : g.hd.pos = e.hd.pos) : frm g = frm e := by
  unfold frm; rw [h1, h2, h3, h4]
theorem frm_form {e g : Ex} (hw : e.wf) (ht : e.typ = true) (hn : e.nB) (h : frm e = some g) : ∀ j, frm (g.subE j) = some (g.subE j) := by
  have H := frm_same hw ht hn h
  have hg : frm g = some g := by rw [frm_congr H.fixed H.val H.gives H.pos, h]
  have hnum : ∀ x p : Int, 0 ≤ x → frm (numE x p) = some (numE x p) := fun x p hx => by
    show (if (decide ((1 : Int) = 1)) = true then formE x false p else none) = _
    rw [if_pos (by decide)]
    unfold formE
    rw [if_neg (by decide), if_pos hx]
  intro j
  obtain ⟨hf, hs⟩ := frm_fixed h
  unfold formE at hs
  split at hs
  · cases hs
    unfold Ex.subE
    split
    · exact hnum 0 _ (by decide)
    · split
      · exact hnum 0 _ (by decide)
      · exact hg
  · split at hs
    · cases hs
      exact hg
    · split at hs
      · cases hs
        unfold Ex.subE
        split
        · exact hnum _ _ (by omega)
        · exact hg
      · cases hs
theorem foldE_forms : ∀ {e : Ex}, e.wf → e.typ = true → e.nB → ∀ j, frm ((foldE e).subE j) = some ((foldE e).subE j) ∨ frm ((foldE e).subE j) = none := by
  intro e
  induction e with
  | leaf x =>
    intro hw ht hn j
    cases h : frm (.leaf x) with
    | some g => rw [foldE_some h]; exact .inl (frm_form hw ht hn h j)
    | none =>
      simp only [foldE, h, Option.getD_none]
      exact .inr h
  | un x g ih =>
    intro hw ht hn j
    cases h : frm (.un x g) with
    | some g' => rw [foldE_some h]; exact .inl (frm_form hw ht hn h j)
    | none =>
      have S := foldE_same hw ht hn
      have hc := frm_congr S.fixed S.val S.gives S.pos
      rw [h] at hc
      simp only [foldE, h, Option.getD_none] at hc ⊢
      simp only [Ex.typ, Bool.and_eq_true] at ht
      unfold Ex.subE
      split
      · exact ih hw.2.2.2 ht.2 hn j
      · exact .inr hc
  | bin x g k ih1 ih2 =>
    intro hw ht hn j
    cases h : frm (.bin x g k) with
    | some g' => rw [foldE_some h]; exact .inl (frm_form hw ht hn h j)
    | none =>
      have S := foldE_same hw ht hn
      have hc := frm_congr S.fixed S.val S.gives S.pos
      rw [h] at hc
      simp only [foldE, h, Option.getD_none] at hc ⊢
      simp only [Ex.typ, Bool.and_eq_true] at ht
      unfold Ex.subE
      split
      · exact ih1 hw.2.2.1 ht.1.2 hn.1 j
      · split
        · exact ih2 hw.2.2.2 ht.2 hn.2 _
        · exact .inr hc
/-! ### fields in the place of numbers -/
/-! ### going through the nodes -/
inductive OkAt (e : Ex) (F : Nat → Option Ex) (st : List Nat) : Nat → Prop
  | stk {j} (h : j ∈ st) : OkAt e F st j
  | yes {j g} (h : F j = frm (e.subE j)) (h2 : frm (e.subE j) = some g) : OkAt e F st j
  | leaf {j x} (h : F j = none) (h1 : frm (e.subE j) = none) (h2 : e.subE j = .leaf x) : OkAt e F st j
  | un {j x g} (h : F j = none) (h1 : frm (e.subE j) = none) (h2 : e.subE j = .un x g) (h3 : OkAt e F st (j - 1)) : OkAt e F st j
  | bin {j x g k} (h : F j = none) (h1 : frm (e.subE j) = none) (h2 : e.subE j = .bin x g k) (h3 : OkAt e F st (j - 1 - k.sz)) (h4 : OkAt e F st (j - 1)) : OkAt e F st j
def nextL (e : Ex) (j : Nat) : List Nat := match frm (e.subE j) with
  | some _ => []
  | none => match e.subE j with
    | .leaf _ => []
    | .un _ _ => [j - 1]
    | .bin _ _ k => [j - 1 - k.sz, j - 1]
def setF (F : Nat → Option Ex) (j : Nat) (v : Option Ex) : Nat → Option Ex := fun i => if i = j then v else F i
theorem OkAt.step {e : Ex} {F : Nat → Option Ex} {st : List Nat} {j i : Nat} (h : OkAt e F (st ++ [j]) i) : OkAt e (setF F j (frm (e.subE j))) (st ++ nextL e j) i := by
  have hF : ∀ i v, F i = v → v = frm (e.subE i) → setF F j (frm (e.subE j)) i = v := fun i v h1 h2 => by
    unfold setF
    split
    · rename_i h; subst h; exact h2.symm
    · exact h1
  induction h with
  | @stk i h =>
    rcases List.mem_append.1 h with h | h
    · exact .stk (List.mem_append.2 (.inl h))
    · simp at h; subst h
      have h0 : setF F i (frm (e.subE i)) i = frm (e.subE i) := by simp [setF]
      have hm : ∀ k, k ∈ nextL e i → k ∈ st ++ nextL e i := fun k hk => List.mem_append.2 (.inr hk)
      cases hf : frm (e.subE i) with
      | some g => rw [hf] at h0; exact .yes (by rw [hf, h0]) hf
      | none =>
        cases hs : e.subE i with
        | leaf x => exact .leaf (by rw [hf] at h0; exact h0) hf hs
        | un x g =>
          have hf2 : frm (.un x g) = none := hs ▸ hf
          exact .un (by rw [hf] at h0; exact h0) hf hs (.stk (hm _ (by simp [nextL, hs, hf2])))
        | bin x g k =>
          have hf2 : frm (.bin x g k) = none := hs ▸ hf
          exact .bin (by rw [hf] at h0; exact h0) hf hs (.stk (hm _ (by simp [nextL, hs, hf2]))) (.stk (hm _ (by simp [nextL, hs, hf2])))
  | yes h h2 => exact .yes (hF _ _ h rfl) h2
  | leaf h h1 h2 => exact .leaf (hF _ _ h h1.symm) h1 h2
  | un h h1 h2 h3 ih => exact .un (hF _ _ h h1.symm) h1 h2 ih
  | bin h h1 h2 h3 h4 ih3 ih4 => exact .bin (hF _ _ h h1.symm) h1 h2 ih3 ih4
def todo (e : Ex) (st : List Nat) : Nat := (st.map fun j => (e.subE j).sz).sum
theorem todo_step {e : Ex} {st : List Nat} {j : Nat} (hj : j < e.sz) : todo e (st ++ nextL e j) < todo e (st ++ [j]) := by
  unfold todo nextL
  simp only [List.map_append, List.sum_append, List.map_cons, List.map_nil, List.sum_cons, List.sum_nil]
  have hp := (e.subE j).sz_pos
  split
  · simp; omega
  · split
    · simp; omega
    · rename_i x g hs
      obtain ⟨_, _, h2⟩ := Ex.subE_un hj hs
      rw [hs]
      simp [h2, Ex.sz]
    · rename_i x g k hs
      obtain ⟨_, h2, h3⟩ := Ex.subE_bin hj hs
      rw [hs]
      simp [h2, h3, Ex.sz]
theorem nextL_lt {e : Ex} {j : Nat} (hj : j < e.sz) : ∀ i ∈ nextL e j, i < e.sz := by
  intro i hi
  unfold nextL at hi
  split at hi
  · cases hi
  · split at hi
    · cases hi
    · simp at hi; omega
    · simp at hi; omega
theorem OkAt.built {e : Ex} {F : Nat → Option Ex} {j : Nat} (hj : j < e.sz) (h : OkAt e F [] j) :
    (∃ g, F j = some g ∧ foldE (e.subE j) = g ∧ frm (e.subE j) = some g) ∨
    (F j = none ∧ ((∃ x, e.subE j = .leaf x ∧ foldE (e.subE j) = .leaf x) ∨
      (∃ x g, e.subE j = .un x g ∧ 0 < j ∧ e.subE (j - 1) = g ∧ OkAt e F [] (j - 1) ∧ foldE (e.subE j) = .un x (foldE g)) ∨
      (∃ x g k, e.subE j = .bin x g k ∧ g.sz + k.sz ≤ j ∧ e.subE (j - 1) = k ∧ e.subE (j - 1 - k.sz) = g ∧ OkAt e F [] (j - 1) ∧ OkAt e F [] (j - 1 - k.sz) ∧ foldE (e.subE j) = .bin x (foldE g) (foldE k)))) := by
  cases h with
  | stk h => cases h
  | yes h h2 => exact .inl ⟨_, h.trans h2, foldE_some h2, h2⟩
  | leaf h h1 h2 => exact .inr ⟨h, .inl ⟨_, h2, by rw [h2] at h1 ⊢; simp [foldE, h1]⟩⟩
  | un h h1 h2 h3 =>
    obtain ⟨q0, q1, q2⟩ := Ex.subE_un hj h2
    exact .inr ⟨h, .inr (.inl ⟨_, _, h2, q0, q2, h3, by rw [h2] at h1 ⊢; simp [foldE, h1]⟩)⟩
  | bin h h1 h2 h3 h4 =>
    obtain ⟨q1, q2, q3⟩ := Ex.subE_bin hj h2
    exact .inr ⟨h, .inr (.inr ⟨_, _, _, h2, q1, q2, q3, h4, h3, by rw [h2] at h1 ⊢; simp [foldE, h1]⟩)⟩
end Go.Proofs.Yteohklfoggiojaa
