/-
  Kinds of expressions, in plain Lean: no program in sight.
-/
import Derived.Test.YtfmnjgjfkfppkaaSameM
namespace Go.Proofs.Ytfmnjgjfkfppkaa
open Go.AL
set_option linter.unusedSimpArgs false
set_option linter.unusedVariables false

/-- a kind that gives a truth value -/
def givesB (k : Int) : Bool := decide (k = 6) || decide (12 ≤ k)
/-- a node of a kind fits, if its parts give these -/
def fitsK (k : Int) (a b : Bool) : Bool :=
  if k ≤ 4 then true else if k = 5 then !a else if k = 6 then a else if k = 16 ∨ k = 17 then a == b else if 18 ≤ k then a && b else !a && !b
def kindAt (l : List Node) (i : Int) : Int := (l.getD i.toNat default).kind
def fitsAt (l : List Node) (i : Nat) : Bool :=
  fitsK (l.getD i default).kind (givesB (kindAt l (l.getD i default).a)) (givesB (kindAt l (l.getD i default).b))
/-- the first that does not fit, from k on -/
def wrongFrom (l : List Node) : Nat → Nat → Nat
  | 0, k => k
  | n + 1, k => if fitsAt l k = true then wrongFrom l n (k + 1) else k
def wrongL (l : List Node) : Nat := wrongFrom l l.length 0
theorem wrongFrom_spec (l : List Node) : ∀ (n k : Nat), k ≤ wrongFrom l n k ∧ wrongFrom l n k ≤ k + n ∧ (∀ j, k ≤ j → j < wrongFrom l n k → fitsAt l j = true) ∧ (wrongFrom l n k < k + n → fitsAt l (wrongFrom l n k) = false)
  | 0, k => ⟨Nat.le_refl _, Nat.le_refl _, fun j h1 h2 => absurd h2 (by simp only [wrongFrom]; omega), fun h => absurd h (by simp only [wrongFrom]; omega)⟩
  | n + 1, k => by
    obtain ⟨h1, h2, h3, h4⟩ := wrongFrom_spec l n (k + 1)
    simp only [wrongFrom]
    by_cases h : fitsAt l k = true
    · rw [if_pos h]
      refine ⟨by omega, by omega, fun j a b => ?_, fun a => h4 (by omega)⟩
      by_cases hj : j = k
      · rw [hj]; exact h
      · exact h3 j (by omega) b
    · rw [if_neg h]
      exact ⟨Nat.le_refl _, by omega, fun j a b => by omega, fun _ => by simpa using h⟩
theorem wrongL_le (l : List Node) : wrongL l ≤ l.length := by have := (wrongFrom_spec l l.length 0).2.1; unfold wrongL; omega
theorem wrongL_fits {l : List Node} {j : Nat} (h : j < wrongL l) : fitsAt l j = true := (wrongFrom_spec l l.length 0).2.2.1 j (Nat.zero_le _) h
theorem wrongL_not {l : List Node} (h : wrongL l < l.length) : fitsAt l (wrongL l) = false := (wrongFrom_spec l l.length 0).2.2.2 (by unfold wrongL at h; omega)
theorem wrongL_uniq {l : List Node} {k : Nat} (h1 : k ≤ l.length) (h2 : ∀ j, j < k → fitsAt l j = true) (h3 : k < l.length → fitsAt l k = false) : wrongL l = k := by
  rcases Nat.lt_trichotomy (wrongL l) k with h | h | h
  · have := wrongL_not (l := l) (by omega); rw [h2 _ h] at this; cases this
  · exact h
  · have := wrongL_fits h; rw [h3 (by have := wrongL_le l; omega)] at this; cases this
theorem wrongL_all {l : List Node} (h : ∀ j, j < l.length → fitsAt l j = true) : wrongL l = l.length := wrongL_uniq (Nat.le_refl _) h fun h => by omega
theorem wrongL_eq {l m : List Node} (hl : l.length = m.length) (h : ∀ j, j < l.length → fitsAt l j = fitsAt m j) : wrongL l = wrongL m := by
  have h1 := wrongL_le m
  refine wrongL_uniq (by omega) (fun j hj => ?_) (fun hk => ?_)
  · rw [h j (by omega)]; exact wrongL_fits hj
  · rw [h _ hk]; exact wrongL_not (by omega)
/-- where the parts of a node of an expression lie -/
structure AtOk (l : List Node) (i : Nat) (lo : Nat) : Prop where
  k1 : 1 ≤ (l.getD i default).kind
  k2 : (l.getD i default).kind ≤ 19
  ha : 4 < (l.getD i default).kind → (lo : Int) ≤ (l.getD i default).a ∧ (l.getD i default).a < i
  hb : 6 < (l.getD i default).kind → (lo : Int) ≤ (l.getD i default).b ∧ (l.getD i default).b < i
  za : (l.getD i default).kind ≤ 4 → (l.getD i default).a = 0
  zb : (l.getD i default).kind ≤ 6 → (l.getD i default).b = 0
theorem getD_left {α : Type} [Inhabited α] {l m : List α} {i : Nat} (h : i < l.length) : (l ++ m).getD i default = l.getD i default := by
  simp only [List.getD_eq_getElem?_getD]; rw [List.getElem?_append_left h]
theorem getD_right {α : Type} [Inhabited α] {l m : List α} {i : Nat} (h : l.length ≤ i) : (l ++ m).getD i default = m.getD (i - l.length) default := by
  simp only [List.getD_eq_getElem?_getD]; rw [List.getElem?_append_right h]
theorem Ex.ats : ∀ (e : Ex) (pre post : List Node) (i : Nat), e.wf → pre.length ≤ i → i < pre.length + e.sz → AtOk (pre ++ e.fl pre.length ++ post) i pre.length
  | .leaf x, pre, post, i, hw, h1, h2 => by
    have hi : i = pre.length := by simp [Ex.sz] at h2; omega
    subst hi
    have : (pre ++ (Ex.leaf x).fl pre.length ++ post).getD pre.length default = x.node 0 0 := by
      rw [List.append_assoc, getD_right (Nat.le_refl _), Nat.sub_self]; rfl
    refine ⟨?_, ?_, ?_, ?_, ?_, ?_⟩ <;> rw [this]
    · exact hw.1.k1
    · exact hw.1.k2
    · intro h; have := hw.2; simp [Hd.node] at h; omega
    · intro h; have := hw.2; simp [Hd.node] at h; omega
    · intro _; rfl
    · intro _; rfl
  | .un x e, pre, post, i, hw, h1, h2 => by
    have hp := e.sz_pos
    simp only [Ex.sz] at h2
    by_cases hi : i < pre.length + e.sz
    · have := e.ats pre ([x.node ((pre.length + e.sz - 1 : Nat) : Int) 0] ++ post) i hw.2.2.2 h1 hi
      simpa [Ex.fl, List.append_assoc] using this
    · have hi : i = pre.length + e.sz := by omega
      subst hi
      have : (pre ++ (Ex.un x e).fl pre.length ++ post).getD (pre.length + e.sz) default = x.node ((pre.length + e.sz - 1 : Nat) : Int) 0 := by
        rw [List.append_assoc, getD_right (by omega)]
        simp only [Ex.fl, List.append_assoc]
        rw [getD_right (by rw [e.fl_length]; omega), e.fl_length]
        simp
      have k1 := hw.2.1
      have k2 := hw.2.2.1
      refine ⟨?_, ?_, ?_, ?_, ?_, ?_⟩ <;> rw [this] <;> simp only [Hd.node]
      · exact hw.1.k1
      · exact hw.1.k2
      · intro h; omega
      · intro h; omega
      · intro h; omega
      · intro h; trivial
  | .bin x e f, pre, post, i, hw, h1, h2 => by
    have hp := e.sz_pos
    have hq := f.sz_pos
    simp only [Ex.sz] at h2
    by_cases hi : i < pre.length + e.sz
    · have := e.ats pre (f.fl (pre.length + e.sz) ++ [x.node ((pre.length + e.sz - 1 : Nat) : Int) ((pre.length + e.sz + f.sz - 1 : Nat) : Int)] ++ post) i hw.2.2.1 h1 hi
      simpa [Ex.fl, List.append_assoc] using this
    · by_cases hi2 : i < pre.length + e.sz + f.sz
      · have := f.ats (pre ++ e.fl pre.length) ([x.node ((pre.length + e.sz - 1 : Nat) : Int) ((pre.length + e.sz + f.sz - 1 : Nat) : Int)] ++ post) i hw.2.2.2 (by rw [List.length_append, e.fl_length]; omega) (by rw [List.length_append, e.fl_length]; omega)
        rw [List.length_append, e.fl_length] at this
        have h3 : AtOk (pre ++ (Ex.bin x e f).fl pre.length ++ post) i (pre.length + e.sz) := by simpa [Ex.fl, List.append_assoc] using this
        exact ⟨h3.k1, h3.k2, fun h => ⟨by have := (h3.ha h).1; omega, (h3.ha h).2⟩, fun h => ⟨by have := (h3.hb h).1; omega, (h3.hb h).2⟩, h3.za, h3.zb⟩
      · have hi : i = pre.length + e.sz + f.sz := by omega
        subst hi
        have : (pre ++ (Ex.bin x e f).fl pre.length ++ post).getD (pre.length + e.sz + f.sz) default = x.node ((pre.length + e.sz - 1 : Nat) : Int) ((pre.length + e.sz + f.sz - 1 : Nat) : Int) := by
          rw [List.append_assoc, getD_right (by omega)]
          simp only [Ex.fl, List.append_assoc]
          rw [getD_right (by rw [e.fl_length]; omega), e.fl_length, getD_right (by rw [f.fl_length]; omega), f.fl_length, show pre.length + e.sz + f.sz - pre.length - e.sz - f.sz = 0 by omega]
          rfl
        have k1 := hw.2.1
        refine ⟨?_, ?_, ?_, ?_, ?_, ?_⟩ <;> rw [this] <;> simp only [Hd.node]
        · exact hw.1.k1
        · exact hw.1.k2
        · intro h; omega
        · intro h; omega
        · intro h; omega
        · intro h; omega
theorem IsEx.at {l : List Node} {e : Ex} (h : IsEx l e) {i : Nat} (hi : i < l.length) : AtOk l i 0 := by
  have := e.ats [] [] i h.1 (Nat.zero_le _) (by rw [← h.len]; simpa using hi)
  simpa [← h.2] using this
theorem fitsK_leaf {k : Int} (h : k ≤ 4) (a b : Bool) : fitsK k a b = true := by unfold fitsK; rw [if_pos h]
theorem fitsK_un {k : Int} (h : k ≤ 6) (a b b' : Bool) : fitsK k a b = fitsK k a b' := by
  unfold fitsK
  repeat' split
  all_goals first | rfl | (exfalso; omega)
/-- moved nodes within another list fit as they did -/
theorem fits_mv {l p pre post : List Node} {i lo : Nat} (hl : l = pre ++ p ++ post) (hi : i < p.length) (hat : AtOk p i lo) {q : List Node} {d : Int} (hq : q = p.map (mvN d)) {pre2 post2 : List Node} {m : List Node}
    (hm : m = pre2 ++ q ++ post2) (hd : (pre2.length : Int) = d) : fitsAt m (pre2.length + i) = fitsAt p i := by
  subst hq
  subst hm
  have g : ∀ j, j < p.length → (pre2 ++ p.map (mvN d) ++ post2).getD (pre2.length + j) default = mvN d (p.getD j default) := fun j hj => by
    rw [getD_mid pre2 (p.map (mvN d)) post2 j (pre2.length + j) rfl (by simpa using hj)]
    simp [List.getD_eq_getElem?_getD, List.getElem?_eq_getElem hj]
  unfold fitsAt
  rw [g i hi]
  obtain ⟨y, hy⟩ : ∃ y, p.getD i default = y := ⟨_, rfl⟩
  have ha := hat.ha
  have hb := hat.hb
  have k1 := hat.k1
  have k2 := hat.k2
  rw [hy] at ha hb k1 k2 ⊢
  have kA : ∀ a : Int, 0 ≤ a → a < p.length → kindAt (pre2 ++ p.map (mvN d) ++ post2) (a + d) = kindAt p a := fun a h1 h2 => by
    unfold kindAt
    rw [show (a + d).toNat = pre2.length + a.toNat by omega, g _ (by omega)]
    rfl
  by_cases h4 : y.kind ≤ 4
  · rw [show (mvN d y).kind = y.kind from rfl, fitsK_leaf h4, fitsK_leaf h4]
  · have hA := ha (by omega)
    have e1 : (mvN d y).a = y.a + d := by
      have h1 : 0 < partsN y.kind := by unfold partsN; repeat' split; all_goals omega
      simp [mvN, h1]
    rw [show (mvN d y).kind = y.kind from rfl, e1, kA y.a (by omega) (by omega)]
    by_cases h6 : y.kind ≤ 6
    · exact fitsK_un h6 _ _ _
    · have hB := hb (by omega)
      have e2 : (mvN d y).b = y.b + d := by
        have h1 : 1 < partsN y.kind := by unfold partsN; repeat' split; all_goals omega
        simp [mvN, h1]
      rw [e2, kA y.b (by omega) (by omega)]
/-- nodes within another list fit as they did -/
theorem fits_pre {p post : List Node} {i lo : Nat} (hi : i < p.length) (hat : AtOk p i lo) : fitsAt (p ++ post) i = fitsAt p i := by
  have h0 : p.map (mvN 0) = p := by
    rw [show mvN 0 = id from funext fun x => by simp [mvN]]; simp
  have := fits_mv (l := p ++ post) (p := p) (pre := []) (post := post) rfl hi hat (q := p) (d := 0) h0.symm (pre2 := []) (post2 := post) (m := p ++ post) rfl rfl
  simpa using this
theorem mvN_inv (d : Int) (x : Node) : mvN d (mvN (-d) x) = x := by
  obtain ⟨k, n, a, b, p⟩ := x
  simp only [mvN, Node.mk.injEq, true_and, and_true]
  constructor
  · split
    · omega
    · rfl
  · split
    · omega
    · rfl
theorem cutL_back {l : List Node} {off s : Nat} (h : off + s ≤ l.length) : l = l.take off ++ (cutL l off s).map (mvN (off : Int)) ++ l.drop (off + s) := by
  have e : (cutL l off s).map (mvN (off : Int)) = (l.drop off).take s := by
    unfold cutL
    rw [List.map_map, show mvN (off : Int) ∘ mvN (-(off : Int)) = id from funext fun x => mvN_inv _ x, List.map_id]
  rw [e, List.append_assoc, ← List.drop_drop, List.take_append_drop, List.take_append_drop]
theorem cutL_at {l : List Node} {off s i : Nat} (h : off + s ≤ l.length) (hi : i < s) : (cutL l off s).getD i default = mvN (-(off : Int)) (l.getD (off + i) default) := by
  unfold cutL
  simp only [List.getD_eq_getElem?_getD, List.getElem?_map, List.getElem?_take, if_pos hi, List.getElem?_drop]
  rw [List.getElem?_eq_getElem (by omega)]; rfl
theorem cutL_len {l : List Node} {off s : Nat} (h : off + s ≤ l.length) : (cutL l off s).length = s := by unfold cutL; simp; omega
/-- the nodes of a part fit as they did in the whole -/
theorem fits_cut {l : List Node} {off s i : Nat} {f : Ex} (h : off + s ≤ l.length) (hf : IsEx (cutL l off s) f) (hi : i < s) : fitsAt l (off + i) = fitsAt (cutL l off s) i := by
  have hl := cutL_len h
  have hi' : i < (cutL l off s).length := by omega
  have := fits_mv (l := cutL l off s) (p := cutL l off s) (pre := []) (post := []) (by simp) hi' (hf.at hi') (q := (cutL l off s).map (mvN (off : Int))) (d := (off : Int)) rfl (pre2 := l.take off) (post2 := l.drop (off + s)) (m := l) (cutL_back h) (by simp; omega)
  rw [← this]
  congr 1
  simp; omega
theorem wrong_cut {l : List Node} {off s : Nat} {f : Ex} (h : off + s ≤ l.length) (hf : IsEx (cutL l off s) f) (hs : off + s ≤ wrongL l) : wrongL (cutL l off s) = s := by
  have hl := cutL_len h
  refine wrongL_uniq (by omega) (fun j hj => ?_) (fun hk => by omega)
  rw [← fits_cut h hf hj]
  exact wrongL_fits (by omega)
theorem wrong_cut_last {l : List Node} {off s : Nat} {f : Ex} (h : off + s ≤ l.length) (hf : IsEx (cutL l off s) f) (hs : off + s = wrongL l + 1) (h0 : 0 < s) : wrongL (cutL l off s) = s - 1 := by
  have hl := cutL_len h
  refine wrongL_uniq (by omega) (fun j hj => ?_) (fun hk => ?_)
  · rw [← fits_cut h hf (by omega)]
    exact wrongL_fits (by omega)
  · rw [← fits_cut h hf (by omega), show off + (s - 1) = wrongL l by omega]
    exact wrongL_not (by omega)
/-- with another place, and other leaves -/
def Node.leafy (p k : Int) (x : Node) : Node := if x.kind ≤ 4 then ⟨k, 0, x.a, x.b, p⟩ else ⟨x.kind, x.n, x.a, x.b, p⟩
def Ex.leafy (p k : Int) : Ex → Ex
  | .leaf x => .leaf ⟨k, 0, p⟩
  | .un x e => .un ⟨x.kind, x.n, p⟩ (e.leafy p k)
  | .bin x e f => .bin ⟨x.kind, x.n, p⟩ (e.leafy p k) (f.leafy p k)
theorem Ex.leafy_sz (p k : Int) : ∀ e : Ex, (e.leafy p k).sz = e.sz
  | .leaf x => rfl
  | .un x e => by simp [Ex.leafy, Ex.sz, e.leafy_sz p k]
  | .bin x e f => by simp [Ex.leafy, Ex.sz, e.leafy_sz p k, f.leafy_sz p k]
theorem Ex.leafy_dp (p k : Int) : ∀ e : Ex, (e.leafy p k).dp = e.dp
  | .leaf x => rfl
  | .un x e => by simp [Ex.leafy, Ex.dp, e.leafy_dp p k]
  | .bin x e f => by simp [Ex.leafy, Ex.dp, e.leafy_dp p k, f.leafy_dp p k]
theorem Ex.leafy_fl (p k : Int) : ∀ (e : Ex) (o : Nat), e.wf → (e.leafy p k).fl o = (e.fl o).map (Node.leafy p k)
  | .leaf x, o, h => by simp [Ex.leafy, Ex.fl, Node.leafy, Hd.node, h.2]
  | .un x e, o, h => by
    simp only [Ex.leafy, Ex.fl, e.leafy_fl p k o h.2.2.2, e.leafy_sz p k, List.map_append]
    simp [Node.leafy, Hd.node, show ¬ x.kind ≤ 4 by have := h.2.1; omega]
  | .bin x e f, o, h => by
    simp only [Ex.leafy, Ex.fl, e.leafy_fl p k o h.2.2.1, f.leafy_fl p k _ h.2.2.2, e.leafy_sz p k, f.leafy_sz p k, List.map_append]
    simp [Node.leafy, Hd.node, show ¬ x.kind ≤ 4 by have := h.2.1; omega]
theorem Ex.leafy_wf {p k : Int} (h1 : 0 ≤ p) (h2 : p ≤ 400) (h3 : 1 ≤ k) (h4 : k ≤ 4) : ∀ e : Ex, e.wf → (e.leafy p k).wf
  | .leaf x, h => ⟨⟨h3, by show k ≤ 19; omega, Int.le_refl 0, .inl rfl, h1, h2⟩, h4⟩
  | .un x e, h => ⟨⟨h.1.k1, h.1.k2, h.1.n0, h.1.n1, h1, h2⟩, h.2.1, h.2.2.1, e.leafy_wf h1 h2 h3 h4 h.2.2.2⟩
  | .bin x e f, h => ⟨⟨h.1.k1, h.1.k2, h.1.n0, h.1.n1, h1, h2⟩, h.2.1, e.leafy_wf h1 h2 h3 h4 h.2.2.1, f.leafy_wf h1 h2 h3 h4 h.2.2.2⟩
theorem IsEx.leafy {l : List Node} {e : Ex} (h : IsEx l e) {p k : Int} (h1 : 0 ≤ p) (h2 : p ≤ 400) (h3 : 1 ≤ k) (h4 : k ≤ 4) : IsEx (l.map (Node.leafy p k)) (e.leafy p k) :=
  ⟨e.leafy_wf h1 h2 h3 h4 h.1, by rw [h.2, e.leafy_fl p k 0 h.1]⟩
theorem gives_leafy {p k : Int} (h4 : k ≤ 4) (x : Node) : givesB (x.leafy p k).kind = givesB x.kind := by
  unfold Node.leafy givesB
  split
  · simp [show ¬ k = 6 by omega, show ¬ 12 ≤ k by omega, show ¬ x.kind = 6 by omega, show ¬ 12 ≤ x.kind by omega]
  · rfl
theorem getD_leafy {l : List Node} {p k : Int} {i : Nat} (hi : i < l.length) : (l.map (Node.leafy p k)).getD i default = (l.getD i default).leafy p k := by
  simp [List.getD_eq_getElem?_getD, List.getElem?_eq_getElem hi]
theorem fits_leafy {l : List Node} {e : Ex} (h : IsEx l e) {p k : Int} (h4 : k ≤ 4) {i : Nat} (hi : i < l.length) : fitsAt (l.map (Node.leafy p k)) i = fitsAt l i := by
  have hat := h.at hi
  have ha := hat.ha
  have hb := hat.hb
  unfold fitsAt
  rw [getD_leafy hi]
  generalize l.getD i default = y at *
  by_cases h4' : y.kind ≤ 4
  · rw [fitsK_leaf h4', fitsK_leaf (by unfold Node.leafy; rw [if_pos h4']; exact h4)]
  · have e1 : y.leafy p k = ⟨y.kind, y.n, y.a, y.b, p⟩ := by unfold Node.leafy; rw [if_neg h4']
    have kA : ∀ a : Int, 0 ≤ a → a < l.length → givesB (kindAt (l.map (Node.leafy p k)) a) = givesB (kindAt l a) := fun a h1 h2 => by
      unfold kindAt; rw [getD_leafy (by omega), gives_leafy h4]
    have hA := ha (by omega)
    rw [e1]
    simp only
    rw [kA y.a (by omega) (by omega)]
    by_cases h6 : y.kind ≤ 6
    · exact fitsK_un h6 _ _ _
    · have hB := hb (by omega)
      rw [kA y.b (by omega) (by omega)]
theorem wrong_leafy {l : List Node} {e : Ex} (h : IsEx l e) {p k : Int} (h4 : k ≤ 4) : wrongL (l.map (Node.leafy p k)) = wrongL l :=
  wrongL_eq (by simp) fun j hj => fits_leafy h h4 (by simpa using hj)
end Go.Proofs.Ytfmnjgjfkfppkaa
