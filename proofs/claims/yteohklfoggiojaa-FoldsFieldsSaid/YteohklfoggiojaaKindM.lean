/-
  Kinds of expressions, in plain Lean: no program in sight.
-/
import Derived.Test.YteohklfoggiojaaSameM
import Derived.Test.YteohklfoggiojaaCutW
namespace Go.Proofs.Yteohklfoggiojaa
open Go.AL
set_option linter.unusedSimpArgs false
set_option linter.unusedVariables false
def givesB (k : Int) : Bool := decide (k = 6) || decide (12 ≤ k)
def fitsK (k : Int) (a b : Bool) : Bool :=
  if k ≤ 4 then true else if k = 5 then !a else if k = 6 then a else if k = 16 ∨ k = 17 then a == b else if 18 ≤ k then a && b else !a && !b
def kindAt (l : List Node) (i : Int) : Int := (l.getD i.toNat default).kind
def fitsAt (l : List Node) (i : Nat) : Bool :=
  fitsK (l.getD i default).kind (givesB (kindAt l (l.getD i default).a)) (givesB (kindAt l (l.getD i default).b))
def wrongFrom (l : List Node) : Nat → Nat → Nat
  | 0, k => k
  | n + 1, k => if fitsAt l k = true then wrongFrom l n (k + 1) else k
def wrongL (l : List Node) : Nat := wrongFrom l l.length 0
theorem wrongFrom_spec (l : List Node) : ∀ (n k : Nat), k ≤ wrongFrom l n k ∧ wrongFrom l n k ≤ k + n ∧ (∀ j, k ≤ j → j < wrongFrom l n k → fitsAt l j = true) ∧ (wrongFrom l n k < k + n → fitsAt l (wrongFrom l n k) = false)
  | 0, k => ⟨Nat.le_refl _, Nat.le_refl _, fun j h1 h2 => absurd h2 (by simp only [wrongFrom]; omega), fun h => absurd h (by simp only [wrongFrom]; omega)⟩
  | n + 1, k => by
    obtain ⟨h1, h2, h3, h4⟩ := wrongFrom_spec l n (k + 1)
    simp only [wrongFrom]
    by_cases h : fitsAt l k = true
    · rw [if_pos h]
      refine ⟨by omega, by omega, fun j a b => ?_, fun a => h4 (by omega)⟩
      by_cases hj : j = k
      · rw [hj]; exact h
      · exact h3 j (by omega) b
    · rw [if_neg h]
      exact ⟨Nat.le_refl _, by omega, fun j a b => by omega, fun _ => by simpa using h⟩
theorem wrongL_le (l : List Node) : wrongL l ≤ l.length := by have := (wrongFrom_spec l l.length 0).2.1; unfold wrongL; omega
theorem wrongL_fits {l : List Node} {j : Nat} (h : j < wrongL l) : fitsAt l j = true := (wrongFrom_spec l l.length 0).2.2.1 j (Nat.zero_le _) h
theorem wrongL_not {l : List Node} (h : wrongL l < l.length) : fitsAt l (wrongL l) = false := (wrongFrom_spec l l.length 0).2.2.2 (by unfold wrongL at h; omega)
theorem wrongL_uniq {l : List Node} {k : Nat} (h1 : k ≤ l.length) (h2 : ∀ j, j < k → fitsAt l j = true) (h3 : k < l.length → fitsAt l k = false) : wrongL l = k := by
  rcases Nat.lt_trichotomy (wrongL l) k with h | h | h
  · have := wrongL_not (l := l) (by omega); rw [h2 _ h] at this; cases this
  · exact h
  · have := wrongL_fits h; rw [h3 (by have := wrongL_le l; omega)] at this; cases this
theorem wrongL_all {l : List Node} (h : ∀ j, j < l.length → fitsAt l j = true) : wrongL l = l.length := wrongL_uniq (Nat.le_refl _) h fun h => by omega
structure AtOk (l : List Node) (i : Nat) (lo : Nat) : Prop where
  k1 : 1 ≤ (l.getD i default).kind
  k2 : (l.getD i default).kind ≤ 19
  ha : 4 < (l.getD i default).kind → (lo : Int) ≤ (l.getD i default).a ∧ (l.getD i default).a < i
  hb : 6 < (l.getD i default).kind → (lo : Int) ≤ (l.getD i default).b ∧ (l.getD i default).b < i
  za : (l.getD i default).kind ≤ 4 → (l.getD i default).a = 0
  zb : (l.getD i default).kind ≤ 6 → (l.getD i default).b = 0
theorem getD_left {α : Type} [Inhabited α] {l m : List α} {i : Nat} (h : i < l.length) : (l ++ m).getD i default = l.getD i default := by
  simp only [List.getD_eq_getElem?_getD]; rw [List.getElem?_append_left h]
theorem getD_right {α : Type} [Inhabited α] {l m : List α} {i : Nat} (h : l.length ≤ i) : (l ++ m).getD i default = m.getD (i - l.length) default := by
  simp only [List.getD_eq_getElem?_getD]; rw [List.getElem?_append_right h]
theorem Ex.ats : ∀ (e : Ex) (pre post : List Node) (i : Nat), e.wf → pre.length ≤ i → i < pre.length + e.sz → AtOk (pre ++ e.fl pre.length ++ post) i pre.length
  | .leaf x, pre, post, i, hw, h1, h2 => by
    have hi : i = pre.length := by simp [Ex.sz] at h2; omega
    subst hi
    have : (pre ++ (Ex.leaf x).fl pre.length ++ post).getD pre.length default = x.node 0 0 := by
      rw [List.append_assoc, getD_right (Nat.le_refl _), Nat.sub_self]; rfl
    refine ⟨?_, ?_, ?_, ?_, ?_, ?_⟩ <;> rw [this]
    · exact hw.1.k1
    · exact hw.1.k2
    · intro h; have := hw.2; simp [Hd.node] at h; omega
    · intro h; have := hw.2; simp [Hd.node] at h; omega
    · intro _; rfl
    · intro _; rfl
  | .un x e, pre, post, i, hw, h1, h2 => by
    have hp := e.sz_pos
    simp only [Ex.sz] at h2
    by_cases hi : i < pre.length + e.sz
    · have := e.ats pre ([x.node ((pre.length + e.sz - 1 : Nat) : Int) 0] ++ post) i hw.2.2.2 h1 hi
      simpa [Ex.fl, List.append_assoc] using this
    · have hi : i = pre.length + e.sz := by omega
      subst hi
      have : (pre ++ (Ex.un x e).fl pre.length ++ post).getD (pre.length + e.sz) default = x.node ((pre.length + e.sz - 1 : Nat) : Int) 0 := by
        rw [List.append_assoc, getD_right (by omega)]
        simp only [Ex.fl, List.append_assoc]
        rw [getD_right (by rw [e.fl_length]; omega), e.fl_length]
        simp
      have k1 := hw.2.1
      have k2 := hw.2.2.1
      refine ⟨?_, ?_, ?_, ?_, ?_, ?_⟩ <;> rw [this] <;> simp only [Hd.node]
      · exact hw.1.k1
      · exact hw.1.k2
      · intro h; omega
      · intro h; omega
      · intro h; omega
      · intro h; trivial
  | .bin x e f, pre, post, i, hw, h1, h2 => by
    have hp := e.sz_pos
    have hq := f.sz_pos
    simp only [Ex.sz] at h2
    by_cases hi : i < pre.length + e.sz
    · have := e.ats pre (f.fl (pre.length + e.sz) ++ [x.node ((pre.length + e.sz - 1 : Nat) : Int) ((pre.length + e.sz + f.sz - 1 : Nat) : Int)] ++ post) i hw.2.2.1 h1 hi
      simpa [Ex.fl, List.append_assoc] using this
    · by_cases hi2 : i < pre.length + e.sz + f.sz
      · have := f.ats (pre ++ e.fl pre.length) ([x.node ((pre.length + e.sz - 1 : Nat) : Int) ((pre.length + e.sz + f.sz - 1 : Nat) : Int)] ++ post) i hw.2.2.2 (by rw [List.length_append, e.fl_length]; omega) (by rw [List.length_append, e.fl_length]; omega)
        rw [List.length_append, e.fl_length] at this
        have h3 : AtOk (pre ++ (Ex.bin x e f).fl pre.length ++ post) i (pre.length + e.sz) := by simpa [Ex.fl, List.append_assoc] using this
        exact ⟨h3.k1, h3.k2, fun h => ⟨by have := (h3.ha h).1; omega, (h3.ha h).2⟩, fun h => ⟨by have := (h3.hb h).1; omega, (h3.hb h).2⟩, h3.za, h3.zb⟩
      · have hi : i = pre.length + e.sz + f.sz := by omega
        subst hi
        have : (pre ++ (Ex.bin x e f).fl pre.length ++ post).getD (pre.length + e.sz + f.sz) default = x.node ((pre.length + e.sz - 1 : Nat) : Int) ((pre.length + e.sz + f.sz - 1 : Nat) : Int) := by
          rw [List.append_assoc, getD_right (by omega)]
          simp only [Ex.fl, List.append_assoc]
          rw [getD_right (by rw [e.fl_length]; omega), e.fl_length, getD_right (by rw [f.fl_length]; omega), f.fl_length, show pre.length + e.sz + f.sz - pre.length - e.sz - f.sz = 0 by omega]
          rfl
        have k1 := hw.2.1
        refine ⟨?_, ?_, ?_, ?_, ?_, ?_⟩ <;> rw [this] <;> simp only [Hd.node]
        · exact hw.1.k1
        · exact hw.1.k2
        · intro h; omega
        · intro h; omega
        · intro h; omega
        · intro h; omega
theorem IsEx.at {l : List Node} {e : Ex} (h : IsEx l e) {i : Nat} (hi : i < l.length) : AtOk l i 0 := by
  have := e.ats [] [] i h.1 (Nat.zero_le _) (by rw [← h.len]; simpa using hi)
  simpa [← h.2] using this
theorem fitsK_leaf {k : Int} (h : k ≤ 4) (a b : Bool) : fitsK k a b = true := by unfold fitsK; rw [if_pos h]
theorem fitsK_un {k : Int} (h : k ≤ 6) (a b b' : Bool) : fitsK k a b = fitsK k a b' := by
  unfold fitsK
  repeat' split
  all_goals first | rfl | (exfalso; omega)
end Go.Proofs.Yteohklfoggiojaa
