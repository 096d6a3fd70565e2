/-
  The two ways to tell of nodes agree: by sizes, and by a stack of parts. Plain Lean: no program in sight.
-/
import Derived.Test.YteohklfoggiojaaTopM
namespace Go.Proofs.Yteohklfoggiojaa
open Go.AL
set_option linter.unusedSimpArgs false
set_option linter.unusedVariables false
def Ex.root (o : Nat) (e : Ex) : Top := ⟨o + e.sz - 1, e.sz, e.dp⟩
def rootsF (o : Nat) : List Ex → List Top
  | [] => []
  | e :: F => e.root o :: rootsF (o + e.sz) F
def Ex.tops (o : Nat) : Ex → List Top
  | .leaf _ => [⟨o, 1, 1⟩]
  | .un _ e => e.tops o ++ [⟨o + e.sz, e.sz + 1, e.dp + 1⟩]
  | .bin _ e f => e.tops o ++ f.tops (o + e.sz) ++ [⟨o + e.sz + f.sz, e.sz + f.sz + 1, max e.dp f.dp + 1⟩]
def allF (o : Nat) : List Ex → List Top
  | [] => []
  | e :: F => e.tops o ++ allF (o + e.sz) F
theorem Ex.tops_length : ∀ (e : Ex) (o : Nat), (e.tops o).length = e.sz
  | .leaf _, o => by simp [Ex.tops, Ex.sz]
  | .un _ e, o => by simp [Ex.tops, Ex.sz, e.tops_length]
  | .bin _ e f, o => by simp [Ex.tops, Ex.sz, e.tops_length, f.tops_length]; omega
theorem own_iff (x : Node) (a b : Int) (h1 : 1 ≤ x.kind) (h2 : x.kind ≤ 19) : ownN x a b = x ↔ x.hd.ok ∧ x.a = a ∧ x.b = b := by
  obtain ⟨kd, nn, xa, xb, xp⟩ := x
  rw [own_eq]
  simp only at h1 h2
  constructor
  · rintro ⟨e1, e2, e3, e4⟩
    have p0 : 0 ≤ xp ∧ xp ≤ 400 := by
      repeat' split at e4
      all_goals omega
    have n0 : 0 ≤ nn ∧ (nn = 0 ∨ kd = 1) := by
      repeat' split at e1
      all_goals omega
    exact ⟨⟨h1, h2, n0.1, n0.2, p0.1, p0.2⟩, e2.symm, e3.symm⟩
  · rintro ⟨⟨_, _, n0, n1, p0, p1⟩, e2, e3⟩
    simp only [Node.hd] at n0 n1 p0 p1
    refine ⟨?_, e2.symm, e3.symm, ?_⟩
    · repeat' split
      all_goals omega
    · repeat' split
      all_goals omega
theorem tfold_fl : ∀ (e : Ex) (s a : List Top), e.wf → (e.fl a.length).foldlM topStep (s, a) = some (s ++ [e.root a.length], a ++ e.tops a.length)
  | .leaf x, s, a, h => by
    have hr : ownN (x.node 0 0) 0 0 = x.node 0 0 := (own_iff _ _ _ h.1.k1 h.1.k2).2 ⟨h.1, rfl, rfl⟩
    have hk : (x.node 0 0).kind ≤ 4 := h.2
    have hb : ¬ ((x.node 0 0).kind < 1 ∨ 19 < (x.node 0 0).kind) := by have := h.1.k1; have := h.1.k2; show ¬ (x.kind < 1 ∨ 19 < x.kind); omega
    simp only [Ex.fl, List.foldlM_cons, List.foldlM_nil, topStep]
    rw [if_neg hb, if_pos hk, if_pos hr]
    simp [Ex.root, Ex.tops, Ex.sz, Ex.dp]
  | .un x e, s, a, h => by
    have hp := e.sz_pos
    have hd := e.dp_pos
    have hr : ownN (x.node ((a.length + e.sz - 1 : Nat) : Int) 0) ((a.length + e.sz - 1 : Nat) : Int) 0 = x.node ((a.length + e.sz - 1 : Nat) : Int) 0 := (own_iff _ _ _ h.1.k1 h.1.k2).2 ⟨h.1, rfl, rfl⟩
    have hb : ¬ (x.kind < 1 ∨ 19 < x.kind) := by have := h.1.k1; have := h.1.k2; omega
    have hk : ¬ x.kind ≤ 4 := by have := h.2.1; omega
    have hg : (s ++ [e.root a.length]).getD ((s ++ [e.root a.length]).length - 1) default = e.root a.length := by simp [List.getD_eq_getElem?_getD]
    simp only [Ex.fl, List.foldlM_append, tfold_fl e s a h.2.2.2, Option.bind_eq_bind, Option.bind_some, List.foldlM_cons, List.foldlM_nil, topStep]
    rw [if_neg (show ¬ ((x.node _ 0).kind < 1 ∨ 19 < (x.node _ 0).kind) from hb), if_neg (show ¬ (x.node _ 0).kind ≤ 4 from hk), if_pos (show (x.node _ 0).kind ≤ 6 from h.2.2.1), if_neg (by simp), hg]
    rw [if_pos (show ownN (x.node _ 0) ((e.root a.length).pos : Int) 0 = _ from hr)]
    simp [Ex.root, Ex.tops, Ex.sz, Ex.dp, e.tops_length]
    omega
  | .bin x e f, s, a, h => by
    have hp := e.sz_pos
    have hq := f.sz_pos
    have hd := e.dp_pos
    have hd2 := f.dp_pos
    have hr : ownN (x.node ((a.length + e.sz - 1 : Nat) : Int) ((a.length + e.sz + f.sz - 1 : Nat) : Int)) ((a.length + e.sz - 1 : Nat) : Int) ((a.length + e.sz + f.sz - 1 : Nat) : Int) = x.node ((a.length + e.sz - 1 : Nat) : Int) ((a.length + e.sz + f.sz - 1 : Nat) : Int) :=
      (own_iff _ _ _ h.1.k1 h.1.k2).2 ⟨h.1, rfl, rfl⟩
    have hb : ¬ (x.kind < 1 ∨ 19 < x.kind) := by have := h.1.k1; have := h.1.k2; omega
    have hk : ¬ x.kind ≤ 6 := by have := h.2.1; omega
    have h2 := tfold_fl f (s ++ [e.root a.length]) (a ++ e.tops a.length) h.2.2.2
    rw [List.length_append, e.tops_length] at h2
    have hg : (s ++ [e.root a.length] ++ [f.root (a.length + e.sz)]).getD ((s ++ [e.root a.length] ++ [f.root (a.length + e.sz)]).length - 1) default = f.root (a.length + e.sz) := by simp [List.getD_eq_getElem?_getD]
    have hg2 : (s ++ [e.root a.length] ++ [f.root (a.length + e.sz)]).getD ((s ++ [e.root a.length] ++ [f.root (a.length + e.sz)]).length - 2) default = e.root a.length := by simp [List.getD_eq_getElem?_getD]
    simp only [Ex.fl, List.foldlM_append, tfold_fl e s a h.2.2.1, h2, Option.bind_eq_bind, Option.bind_some, List.foldlM_cons, List.foldlM_nil, topStep]
    rw [if_neg (show ¬ ((x.node _ _).kind < 1 ∨ 19 < (x.node _ _).kind) from hb), if_neg (show ¬ (x.node _ _).kind ≤ 4 by show ¬ x.kind ≤ 4; omega), if_neg (show ¬ (x.node _ _).kind ≤ 6 from hk), if_neg (by simp), hg, hg2]
    rw [if_pos (show ownN (x.node _ _) ((e.root a.length).pos : Int) ((f.root (a.length + e.sz)).pos : Int) = _ from hr)]
    simp [Ex.root, Ex.tops, Ex.sz, Ex.dp, e.tops_length, f.tops_length]
    omega
theorem tfold_flF : ∀ (F : List Ex) (s a : List Top), (∀ e ∈ F, e.wf) → (flF a.length F).foldlM topStep (s, a) = some (s ++ rootsF a.length F, a ++ allF a.length F)
  | [], s, a, h => by simp [flF, rootsF, allF]
  | e :: F, s, a, h => by
    have h2 := tfold_flF F (s ++ [e.root a.length]) (a ++ e.tops a.length) (fun f hf => h f (by simp [hf]))
    rw [List.length_append, e.tops_length] at h2
    simp [flF, List.foldlM_append, tfold_fl e s a (h e (by simp)), h2, rootsF, allF]
theorem topsF_flF {F : List Ex} (h : ∀ e ∈ F, e.wf) : topsF (flF 0 F) = some (rootsF 0 F, allF 0 F) := by
  have := tfold_flF F [] [] h
  simpa [topsF] using this
theorem rootsF_length : ∀ (F : List Ex) (o : Nat), (rootsF o F).length = F.length
  | [], o => rfl
  | e :: F, o => by simp [rootsF, rootsF_length F]
theorem rootsF_app : ∀ (F G : List Ex) (o : Nat), rootsF o (F ++ G) = rootsF o F ++ rootsF (o + szF F) G
  | [], G, o => by simp [rootsF, szF]
  | e :: F, G, o => by
    have := rootsF_app F G (o + e.sz)
    simp only [List.cons_append, rootsF, this, szF, List.map_cons, List.sum_cons, Nat.add_assoc]
theorem tforest_step {F : List Ex} {x : Node} {sa : List Top × List Top} (hw : ∀ e ∈ F, e.wf) (h : topStep (rootsF 0 F, allF 0 F) x = some sa) :
    ∃ G : List Ex, flF 0 F ++ [x] = flF 0 G ∧ (∀ e ∈ G, e.wf) := by
  unfold topStep at h
  simp only [rootsF_length] at h
  split at h
  · cases h
  rename_i hb
  split at h
  · rename_i hk
    split at h
    · rename_i hr
      obtain ⟨h1, h2, h3⟩ := (own_iff x _ _ (by omega) (by omega)).1 hr
      refine ⟨F ++ [.leaf x.hd], ?_, ?_⟩
      · rw [flF_app]
        simp only [flF, Ex.fl, List.append_nil]
        congr 2
        cases x; simp only [Hd.node, Node.hd] at h2 h3 ⊢; rw [h2, h3]
      · intro e he
        rcases List.mem_append.1 he with he | he
        · exact hw e he
        · simp at he; subst he; exact ⟨h1, hk⟩
    · cases h
  rename_i hk
  rcases snoc_cases F with rfl | ⟨F', e, rfl⟩
  · split at h
    · rw [if_pos (by simp)] at h; cases h
    · rw [if_pos (by simp)] at h; cases h
  have hroot : ∀ (G : List Ex) (f : Ex), rootsF 0 (G ++ [f]) = rootsF 0 G ++ [f.root (szF G)] := fun G f => by rw [rootsF_app]; simp [rootsF]
  have hew := hw e (by simp)
  split at h
  · rename_i hk6
    split at h
    · cases h
    split at h
    · rename_i hr
      have hg : (rootsF 0 (F' ++ [e])).getD ((F' ++ [e]).length - 1) default = e.root (szF F') := by
        rw [hroot]
        simp [List.getD_eq_getElem?_getD, rootsF_length]
      rw [hg] at hr
      obtain ⟨h1, h2, h3⟩ := (own_iff x _ _ (by omega) (by omega)).1 hr
      refine ⟨F' ++ [.un x.hd e], ?_, ?_⟩
      · rw [flF_app, flF_app]
        simp only [flF, Ex.fl, List.append_nil, List.append_assoc, Nat.zero_add]
        congr 3
        cases x; simp only [Hd.node, Node.hd, Ex.root] at h2 h3 ⊢; rw [h2, h3]
      · intro g hg
        rcases List.mem_append.1 hg with hg | hg
        · exact hw g (by simp [hg])
        · simp at hg; subst hg; exact ⟨h1, by show 4 < x.kind; omega, hk6, hew⟩
    · cases h
  · rename_i hk6
    rcases snoc_cases F' with rfl | ⟨F2, f, rfl⟩
    · rw [if_pos (by simp)] at h; cases h
    split at h
    · cases h
    split at h
    · rename_i hr
      have hg : (rootsF 0 (F2 ++ [f] ++ [e])).getD ((F2 ++ [f] ++ [e]).length - 1) default = e.root (szF (F2 ++ [f])) := by
        rw [hroot]
        simp [List.getD_eq_getElem?_getD, rootsF_length]
      have hg2 : (rootsF 0 (F2 ++ [f] ++ [e])).getD ((F2 ++ [f] ++ [e]).length - 2) default = f.root (szF F2) := by
        rw [hroot, hroot]
        simp [List.getD_eq_getElem?_getD, rootsF_length]
      rw [hg, hg2] at hr
      obtain ⟨h1, h2, h3⟩ := (own_iff x _ _ (by omega) (by omega)).1 hr
      refine ⟨F2 ++ [.bin x.hd f e], ?_, ?_⟩
      · rw [flF_app, flF_app, flF_app]
        simp only [flF, Ex.fl, List.append_nil, List.append_assoc, Nat.zero_add, szF_app]
        have e1 : szF [f] = f.sz := by simp [szF]
        rw [e1]
        congr 4
        cases x; simp only [Hd.node, Node.hd, Ex.root, szF_app, e1] at h2 h3 ⊢; rw [h2, h3]
      · intro g hg
        rcases List.mem_append.1 hg with hg | hg
        · exact hw g (by simp [hg])
        · simp at hg; subst hg; exact ⟨h1, by show 6 < x.kind; omega, hw f (by simp), hew⟩
    · cases h
theorem tforest_of : ∀ (l : List Node) (F : List Ex) (sa : List Top × List Top), (∀ e ∈ F, e.wf) → l.foldlM topStep (rootsF 0 F, allF 0 F) = some sa →
    ∃ G : List Ex, flF 0 F ++ l = flF 0 G ∧ (∀ e ∈ G, e.wf)
  | [], F, sa, hw, h => ⟨F, by simp, hw⟩
  | x :: l, F, sa, hw, h => by
    rw [List.foldlM_cons] at h
    cases hx : topStep (rootsF 0 F, allF 0 F) x with
    | none => simp [hx] at h
    | some sa1 =>
      obtain ⟨G, e1, e2⟩ := tforest_step hw hx
      have e3 : sa1 = (rootsF 0 G, allF 0 G) := by
        have h1 := topsF_flF e2
        have h2 := topsF_flF hw
        rw [← e1] at h1
        unfold topsF at h1 h2
        rw [List.foldlM_append, h2] at h1
        simp [hx] at h1
        exact h1
      subst e3
      rw [hx] at h
      obtain ⟨H, f1, f2⟩ := tforest_of l G sa e2 h
      exact ⟨H, by rw [← f1, ← e1]; simp, f2⟩
theorem topsF_some {l : List Node} {sa : List Top × List Top} (h : topsF l = some sa) : ∃ G : List Ex, l = flF 0 G ∧ (∀ e ∈ G, e.wf) ∧ sa = (rootsF 0 G, allF 0 G) := by
  obtain ⟨G, h1, h2⟩ := tforest_of l [] sa (by simp) h
  simp only [flF, List.nil_append] at h1
  refine ⟨G, h1, h2, ?_⟩
  rw [h1, topsF_flF h2] at h
  cases h; rfl
end Go.Proofs.Yteohklfoggiojaa
