/-
  Lists of nodes as forests, in plain Lean: no program in sight.
-/
import Derived.Test.YteohklfoggiojaaAbsD
namespace Go.Proofs.Yteohklfoggiojaa
open Go.AL
set_option linter.unusedSimpArgs false
set_option linter.unusedVariables false
structure Node where
  kind : Int
  n : Int
  a : Int
  b : Int
  pos : Int
  deriving DecidableEq, Inhabited
def Node.cells (x : Node) : List AV := [.lit (.int .u8 x.kind), .lit (.int .i64 x.n), .lit (.int .i64 x.a), .lit (.int .i64 x.b), .lit (.int .i64 x.pos)]
def nodesV (l : List Node) : AV := .ro 5 (l.map Node.cells)
def natsV (l : List Nat) : AV := .ro 1 (l.map fun x : Nat => [.lit (.int .i64 (x : Int))])
def countI (k : Int) : Int := if k ≤ 4 then 0 else if k ≤ 6 then 1 else 2
def rightB (x : Node) (a b : Int) : Bool :=
  decide (1 ≤ x.kind) && decide (x.kind ≤ 19) && decide (0 ≤ x.n) && (x.n == 0 || x.kind == 1) && decide (0 ≤ x.pos) && decide (x.pos ≤ 400) && x.a == a && x.b == b
def stepN (sd : List Nat × List Nat) (x : Node) : Option (List Nat × List Nat) :=
  let i := sd.1.length
  if x.kind ≤ 4 then (if rightB x 0 0 = true then some (sd.1 ++ [1], sd.2 ++ [1]) else none)
  else if i = 0 then none
  else
    let s1 := sd.1.getD (i - 1) 0
    let d1 := sd.2.getD (i - 1) 0
    if x.kind ≤ 6 then (if rightB x ((i - 1 : Nat) : Int) 0 = true then some (sd.1 ++ [1 + s1], sd.2 ++ [1 + d1]) else none)
    else if i - 1 < s1 then none
    else
      let j := i - 1 - s1
      if rightB x (j : Int) ((i - 1 : Nat) : Int) = true then some (sd.1 ++ [1 + s1 + sd.1.getD j 0], sd.2 ++ [max (1 + d1) (1 + sd.2.getD j 0)]) else none
def sizesF (l : List Node) : Option (List Nat × List Nat) := l.foldlM stepN ([], [])
theorem stepN_eq {s d : List Nat} {k : Nat} {x : Node} (hs : s.length = k) : stepN (s, d) x =
    if countI x.kind ≤ 0 then (if rightB x 0 0 = true then some (s ++ [1], d ++ [1]) else none)
    else if (k : Int) - 1 < 0 then none
    else if countI x.kind = 2 then
      if (k : Int) - 1 - (s.getD ((k : Int) - 1).toNat default : Nat) < 0 then none
      else if rightB x ((k : Int) - 1 - (s.getD ((k : Int) - 1).toNat default : Nat)) ((k : Int) - 1) = true then
        some (s ++ [1 + s.getD ((k : Int) - 1).toNat default + s.getD ((k : Int) - 1 - (s.getD ((k : Int) - 1).toNat default : Nat)).toNat default],
          d ++ [if (1 + d.getD ((k : Int) - 1 - (s.getD ((k : Int) - 1).toNat default : Nat)).toNat default) > (1 + d.getD ((k : Int) - 1).toNat default) then 1 + d.getD ((k : Int) - 1 - (s.getD ((k : Int) - 1).toNat default : Nat)).toNat default else 1 + d.getD ((k : Int) - 1).toNat default])
      else none
    else if rightB x ((k : Int) - 1) 0 = true then some (s ++ [1 + s.getD ((k : Int) - 1).toNat default], d ++ [1 + d.getD ((k : Int) - 1).toNat default]) else none := by
  subst hs
  have e1 : ((s.length : Int) - 1).toNat = s.length - 1 := by omega
  have hd : ∀ (l : List Nat) (i : Nat), l.getD i default = l.getD i 0 := fun _ _ => rfl
  simp only [e1, hd]
  by_cases h4 : x.kind ≤ 4
  · simp only [stepN, countI, if_pos h4]
    rw [if_pos (Int.le_refl 0)]
  · by_cases hk : s.length = 0
    · simp only [stepN, if_neg h4, if_pos hk]
      rw [if_neg (by unfold countI; rw [if_neg h4]; split <;> omega), if_pos (by omega)]
    · have e2 : ((s.length - 1 : Nat) : Int) = (s.length : Int) - 1 := by omega
      by_cases h6 : x.kind ≤ 6
      · simp only [stepN, countI, if_neg h4, if_neg hk, if_pos h6, e2]
        rw [if_neg (show ¬ ((1 : Int) ≤ 0) by omega), if_neg (show ¬ ((s.length : Int) - 1 < 0) by omega), if_neg (show ¬ ((1 : Int) = 2) by omega)]
      · simp only [stepN, countI, if_neg h4, if_neg hk, if_neg h6, e2]
        rw [if_neg (show ¬ ((2 : Int) ≤ 0) by omega), if_neg (show ¬ ((s.length : Int) - 1 < 0) by omega), if_pos trivial]
        by_cases hlt : s.length - 1 < s.getD (s.length - 1) 0
        · rw [if_pos hlt, if_pos (show ((s.length : Int) - 1 - (s.getD (s.length - 1) 0 : Nat) < 0) by omega)]
        · rw [if_neg hlt, if_neg (show ¬ ((s.length : Int) - 1 - (s.getD (s.length - 1) 0 : Nat) < 0) by omega)]
          have e3 : ((s.length - 1 - s.getD (s.length - 1) 0 : Nat) : Int) = (s.length : Int) - 1 - (s.getD (s.length - 1) 0 : Nat) := by omega
          have e4 : ((s.length : Int) - 1 - (s.getD (s.length - 1) 0 : Nat)).toNat = s.length - 1 - s.getD (s.length - 1) 0 := by omega
          rw [e3, e4]
          have e5 : ∀ a b : Nat, (if b > a then b else a) = max a b := fun a b => by rw [Nat.max_def]; split <;> split <;> omega
          rw [e5]
/-! ### trees -/
structure Hd where
  kind : Int
  n : Int
  pos : Int
  deriving DecidableEq, Inhabited
inductive Ex where
  | leaf (x : Hd)
  | un (x : Hd) (e : Ex)
  | bin (x : Hd) (e f : Ex)
  deriving DecidableEq, Inhabited
def Hd.node (x : Hd) (a b : Int) : Node := ⟨x.kind, x.n, a, b, x.pos⟩
def Node.hd (x : Node) : Hd := ⟨x.kind, x.n, x.pos⟩
def Ex.sz : Ex → Nat
  | .leaf _ => 1
  | .un _ e => e.sz + 1
  | .bin _ e f => e.sz + f.sz + 1
def Ex.dp : Ex → Nat
  | .leaf _ => 1
  | .un _ e => e.dp + 1
  | .bin _ e f => max e.dp f.dp + 1
def Ex.hd : Ex → Hd
  | .leaf x => x
  | .un x _ => x
  | .bin x _ _ => x
def Ex.fl (o : Nat) : Ex → List Node
  | .leaf x => [x.node 0 0]
  | .un x e => e.fl o ++ [x.node ((o + e.sz - 1 : Nat) : Int) 0]
  | .bin x e f => e.fl o ++ f.fl (o + e.sz) ++ [x.node ((o + e.sz - 1 : Nat) : Int) ((o + e.sz + f.sz - 1 : Nat) : Int)]
def Ex.szs : Ex → List Nat
  | .leaf _ => [1]
  | .un _ e => e.szs ++ [e.sz + 1]
  | .bin _ e f => e.szs ++ f.szs ++ [e.sz + f.sz + 1]
def Ex.dps : Ex → List Nat
  | .leaf _ => [1]
  | .un _ e => e.dps ++ [e.dp + 1]
  | .bin _ e f => e.dps ++ f.dps ++ [max e.dp f.dp + 1]
structure Hd.ok (x : Hd) : Prop where
  k1 : 1 ≤ x.kind
  k2 : x.kind ≤ 19
  n0 : 0 ≤ x.n
  n1 : x.n = 0 ∨ x.kind = 1
  p0 : 0 ≤ x.pos
  p1 : x.pos ≤ 400
def Ex.wf : Ex → Prop
  | .leaf x => x.ok ∧ x.kind ≤ 4
  | .un x e => x.ok ∧ 4 < x.kind ∧ x.kind ≤ 6 ∧ e.wf
  | .bin x e f => x.ok ∧ 6 < x.kind ∧ e.wf ∧ f.wf
def flF (o : Nat) : List Ex → List Node
  | [] => []
  | e :: F => e.fl o ++ flF (o + e.sz) F
def szF (F : List Ex) : Nat := (F.map Ex.sz).sum
theorem Ex.sz_pos : ∀ e : Ex, 0 < e.sz
  | .leaf _ => by simp [Ex.sz]
  | .un _ e => by simp [Ex.sz]
  | .bin _ e f => by simp [Ex.sz]
theorem Ex.dp_pos : ∀ e : Ex, 0 < e.dp
  | .leaf _ => by simp [Ex.dp]
  | .un _ e => by simp [Ex.dp]
  | .bin _ e f => by simp [Ex.dp]
theorem Ex.dp_le : ∀ e : Ex, e.dp ≤ e.sz
  | .leaf _ => by simp [Ex.dp, Ex.sz]
  | .un _ e => by simp only [Ex.dp, Ex.sz]; have := e.dp_le; omega
  | .bin _ e f => by simp only [Ex.dp, Ex.sz]; have := e.dp_le; have := f.dp_le; omega
theorem Ex.fl_length : ∀ (e : Ex) (o : Nat), (e.fl o).length = e.sz
  | .leaf _, o => by simp [Ex.fl, Ex.sz]
  | .un _ e, o => by simp [Ex.fl, Ex.sz, e.fl_length]
  | .bin _ e f, o => by simp [Ex.fl, Ex.sz, e.fl_length, f.fl_length]; omega
theorem Ex.szs_length : ∀ (e : Ex), e.szs.length = e.sz
  | .leaf _ => by simp [Ex.szs, Ex.sz]
  | .un _ e => by simp [Ex.szs, Ex.sz, e.szs_length]
  | .bin _ e f => by simp [Ex.szs, Ex.sz, e.szs_length, f.szs_length]; omega
theorem Ex.dps_length : ∀ (e : Ex), e.dps.length = e.sz
  | .leaf _ => by simp [Ex.dps, Ex.sz]
  | .un _ e => by simp [Ex.dps, Ex.sz, e.dps_length]
  | .bin _ e f => by simp [Ex.dps, Ex.sz, e.dps_length, f.dps_length]; omega
theorem Ex.szs_last (e : Ex) : ∃ l, e.szs = l ++ [e.sz] := by
  cases e with
  | leaf x => exact ⟨[], rfl⟩
  | un x e => exact ⟨_, rfl⟩
  | bin x e f => exact ⟨_, rfl⟩
theorem Ex.dps_last (e : Ex) : ∃ l, e.dps = l ++ [e.dp] := by
  cases e with
  | leaf x => exact ⟨[], rfl⟩
  | un x e => exact ⟨_, rfl⟩
  | bin x e f => exact ⟨_, rfl⟩
theorem getD_app_last {α : Type} (l m : List α) (x d : α) (i : Nat) (h : i + 1 = (l ++ [x]).length) : ((l ++ [x]) ++ m).getD i d = x := by
  rw [List.getD_eq_getElem?_getD, List.getElem?_append_left (by omega), List.getElem?_append_right (by simp at h; omega)]
  simp at h; subst h; simp
theorem szs_at (s m : List Nat) (e : Ex) (i : Nat) (h : i + 1 = s.length + e.sz) : ((s ++ e.szs) ++ m).getD i 0 = e.sz := by
  obtain ⟨l, hl⟩ := e.szs_last
  have h2 := e.szs_length
  rw [hl] at h2
  rw [hl, ← List.append_assoc]
  exact getD_app_last _ _ _ _ _ (by simp at h2 ⊢; omega)
theorem dps_at (s m : List Nat) (e : Ex) (i : Nat) (h : i + 1 = s.length + e.sz) : ((s ++ e.dps) ++ m).getD i 0 = e.dp := by
  obtain ⟨l, hl⟩ := e.dps_last
  have h2 := e.dps_length
  rw [hl] at h2
  rw [hl, ← List.append_assoc]
  exact getD_app_last _ _ _ _ _ (by simp at h2 ⊢; omega)
theorem rightB_iff (x : Node) (a b : Int) : rightB x a b = true ↔ x.hd.ok ∧ x.a = a ∧ x.b = b := by
  unfold rightB Node.hd
  simp only [Bool.and_eq_true, Bool.or_eq_true, decide_eq_true_eq, beq_iff_eq]
  constructor
  · rintro ⟨⟨⟨⟨⟨⟨⟨h1, h2⟩, h3⟩, h4⟩, h5⟩, h6⟩, h7⟩, h8⟩; exact ⟨⟨h1, h2, h3, h4, h5, h6⟩, h7, h8⟩
  · rintro ⟨⟨h1, h2, h3, h4, h5, h6⟩, h7, h8⟩; exact ⟨⟨⟨⟨⟨⟨⟨h1, h2⟩, h3⟩, h4⟩, h5⟩, h6⟩, h7⟩, h8⟩
theorem fold_fl : ∀ (e : Ex) (s d : List Nat), e.wf → d.length = s.length → (e.fl s.length).foldlM stepN (s, d) = some (s ++ e.szs, d ++ e.dps)
  | .leaf x, s, d, h, hl => by
    have hr : rightB (x.node 0 0) 0 0 = true := (rightB_iff _ _ _).2 ⟨h.1, rfl, rfl⟩
    have hk : (x.node 0 0).kind ≤ 4 := h.2
    simp [Ex.fl, Ex.szs, Ex.dps, stepN, hk, hr]
  | .un x e, s, d, h, hl => by
    have hp := e.sz_pos
    have hr : rightB (x.node ((s.length + e.sz - 1 : Nat) : Int) 0) ((s.length + e.sz - 1 : Nat) : Int) 0 = true := (rightB_iff _ _ _).2 ⟨h.1, rfl, rfl⟩
    have hk : ¬ x.kind ≤ 4 := by have := h.2.1; omega
    have hs := szs_at s [] e (s.length + e.sz - 1) (by omega)
    have hd := dps_at d [] e (s.length + e.sz - 1) (by omega)
    rw [List.append_nil] at hs hd
    simp only [Ex.fl, List.foldlM_append, fold_fl e s d h.2.2.2 hl, Option.bind_eq_bind, Option.bind_some, List.foldlM_cons, List.foldlM_nil, stepN, List.length_append, e.szs_length]
    rw [if_neg (show ¬ (x.node _ 0).kind ≤ 4 from hk), if_neg (by omega), if_pos (show (x.node _ 0).kind ≤ 6 from h.2.2.1), hr, hs, hd]
    simp [Ex.szs, Ex.dps, Nat.add_comm]
  | .bin x e f, s, d, h, hl => by
    have hp := e.sz_pos
    have hq := f.sz_pos
    have hr : rightB (x.node ((s.length + e.sz - 1 : Nat) : Int) ((s.length + e.sz + f.sz - 1 : Nat) : Int)) ((s.length + e.sz - 1 : Nat) : Int) ((s.length + e.sz + f.sz - 1 : Nat) : Int) = true := (rightB_iff _ _ _).2 ⟨h.1, rfl, rfl⟩
    have hk : ¬ x.kind ≤ 6 := by have := h.2.1; omega
    have hs := szs_at (s ++ e.szs) [] f (s.length + e.sz + f.sz - 1) (by simp [e.szs_length]; omega)
    have hd := dps_at (d ++ e.dps) [] f (s.length + e.sz + f.sz - 1) (by simp [e.dps_length]; omega)
    have hs2 := szs_at s f.szs e (s.length + e.sz - 1) (by omega)
    have hd2 := dps_at d f.dps e (s.length + e.sz - 1) (by omega)
    rw [List.append_nil] at hs hd
    have h2 := fold_fl f (s ++ e.szs) (d ++ e.dps) h.2.2.2 (by simp [hl, e.szs_length, e.dps_length])
    rw [List.length_append, e.szs_length] at h2
    simp only [Ex.fl, List.foldlM_append, fold_fl e s d h.2.2.1 hl, h2, Option.bind_eq_bind, Option.bind_some, List.foldlM_cons, List.foldlM_nil, stepN, List.length_append, e.szs_length, f.szs_length]
    rw [if_neg (show ¬ (x.node _ _).kind ≤ 4 by show ¬ x.kind ≤ 4; omega), if_neg (by omega), if_neg (show ¬ (x.node _ _).kind ≤ 6 from hk), hs, hd, if_neg (by omega)]
    rw [show s.length + e.sz + f.sz - 1 - f.sz = s.length + e.sz - 1 by omega, hs2, hd2, hr]
    simp [Ex.szs, Ex.dps]
    omega
theorem fold_flF : ∀ (F : List Ex) (s d : List Nat), (∀ e ∈ F, e.wf) → d.length = s.length → (flF s.length F).foldlM stepN (s, d) = some (s ++ F.flatMap Ex.szs, d ++ F.flatMap Ex.dps)
  | [], s, d, h, hl => by simp [flF]
  | e :: F, s, d, h, hl => by
    have h2 := fold_flF F (s ++ e.szs) (d ++ e.dps) (fun f hf => h f (by simp [hf])) (by simp [hl, e.szs_length, e.dps_length])
    rw [List.length_append, e.szs_length] at h2
    simp [flF, List.foldlM_append, fold_fl e s d (h e (by simp)) hl, h2]
theorem flF_length : ∀ (F : List Ex) (o : Nat), (flF o F).length = szF F
  | [], o => by simp [flF, szF]
  | e :: F, o => by
    have := flF_length F (o + e.sz)
    simp only [flF, List.length_append, this, e.fl_length, szF, List.map_cons, List.sum_cons]
theorem szs_lenF : ∀ (F : List Ex), (F.flatMap Ex.szs).length = szF F
  | [] => rfl
  | e :: F => by
    have := szs_lenF F
    simp only [List.flatMap_cons, List.length_append, this, e.szs_length, szF, List.map_cons, List.sum_cons]
theorem dps_lenF : ∀ (F : List Ex), (F.flatMap Ex.dps).length = szF F
  | [] => rfl
  | e :: F => by
    have := dps_lenF F
    simp only [List.flatMap_cons, List.length_append, this, e.dps_length, szF, List.map_cons, List.sum_cons]
theorem szF_app (F G : List Ex) : szF (F ++ G) = szF F + szF G := by simp [szF]
theorem flF_app : ∀ (F G : List Ex) (o : Nat), flF o (F ++ G) = flF o F ++ flF (o + szF F) G
  | [], G, o => by simp [flF, szF]
  | e :: F, G, o => by
    have := flF_app F G (o + e.sz)
    simp only [List.cons_append, flF, this, List.append_assoc, szF, List.map_cons, List.sum_cons, Nat.add_assoc]
theorem snoc_cases {α : Type} (F : List α) : F = [] ∨ ∃ G e, F = G ++ [e] := by
  rcases List.eq_nil_or_concat F with h | ⟨G, e, h⟩
  · exact .inl h
  · exact .inr ⟨G, e, by simpa using h⟩
theorem forest_step {F : List Ex} {x : Node} {sd : List Nat × List Nat} (hw : ∀ e ∈ F, e.wf) (h : stepN (F.flatMap Ex.szs, F.flatMap Ex.dps) x = some sd) :
    ∃ G : List Ex, flF 0 F ++ [x] = flF 0 G ∧ (∀ e ∈ G, e.wf) ∧ sd = (G.flatMap Ex.szs, G.flatMap Ex.dps) := by
  unfold stepN at h
  simp only [szs_lenF] at h
  split at h
  · rename_i hk
    split at h
    · rename_i hr
      obtain ⟨h1, h2, h3⟩ := (rightB_iff _ _ _).1 hr
      cases h
      refine ⟨F ++ [.leaf x.hd], ?_, fun e he => ?_, by simp [Ex.szs, Ex.dps]⟩
      · simp only [flF_app, flF, Ex.fl, List.append_nil]
        congr 2
        cases x; simp [Hd.node, Node.hd] at h2 h3 ⊢; exact ⟨h2, h3⟩
      · rcases List.mem_append.1 he with he | he
        · exact hw e he
        · simp at he; subst he; exact ⟨h1, hk⟩
    · cases h
  · rename_i hk
    split at h
    · cases h
    · rename_i hi
      rcases snoc_cases F with rfl | ⟨F1, f, rfl⟩
      · simp [szF] at hi
      have hq := f.sz_pos
      have hsz : szF (F1 ++ [f]) = szF F1 + f.sz := by simp [szF]
      have e1 : ((F1 ++ [f]).flatMap Ex.szs).getD (szF (F1 ++ [f]) - 1) 0 = f.sz := by
        have := szs_at (F1.flatMap Ex.szs) [] f (szF (F1 ++ [f]) - 1) (by rw [szs_lenF]; omega)
        simpa using this
      have e2 : ((F1 ++ [f]).flatMap Ex.dps).getD (szF (F1 ++ [f]) - 1) 0 = f.dp := by
        have := dps_at (F1.flatMap Ex.dps) [] f (szF (F1 ++ [f]) - 1) (by rw [dps_lenF]; omega)
        simpa using this
      rw [e1, e2] at h
      split at h
      · rename_i hk6
        split at h
        · rename_i hr
          obtain ⟨h1, h2, h3⟩ := (rightB_iff _ _ _).1 hr
          cases h
          refine ⟨F1 ++ [.un x.hd f], ?_, fun e he => ?_, by simp [Ex.szs, Ex.dps, Nat.add_comm]⟩
          · simp only [flF_app, flF, Ex.fl, List.append_nil, List.append_assoc, Nat.zero_add]
            congr 3
            rw [hsz] at h2
            cases x; simp only [Hd.node, Node.hd] at h2 h3 ⊢; rw [h2, h3]
          · rcases List.mem_append.1 he with he | he
            · exact hw e (by simp [he])
            · simp at he; subst he; exact ⟨h1, by show 4 < x.kind; omega, hk6, hw f (by simp)⟩
        · cases h
      · rename_i hk6
        split at h
        · cases h
        · rename_i hlt
          rcases snoc_cases F1 with rfl | ⟨F2, g, rfl⟩
          · simp [szF] at hlt; omega
          have hp := g.sz_pos
          have hsz1 : szF (F2 ++ [g]) = szF F2 + g.sz := by simp [szF]
          have hj : szF (F2 ++ [g] ++ [f]) - 1 - f.sz = szF F2 + g.sz - 1 := by omega
          have e3 : ((F2 ++ [g] ++ [f]).flatMap Ex.szs).getD (szF F2 + g.sz - 1) 0 = g.sz := by
            have := szs_at (F2.flatMap Ex.szs) f.szs g (szF F2 + g.sz - 1) (by rw [szs_lenF]; omega)
            simpa using this
          have e4 : ((F2 ++ [g] ++ [f]).flatMap Ex.dps).getD (szF F2 + g.sz - 1) 0 = g.dp := by
            have := dps_at (F2.flatMap Ex.dps) f.dps g (szF F2 + g.sz - 1) (by rw [dps_lenF]; omega)
            simpa using this
          rw [hj, e3, e4] at h
          split at h
          · rename_i hr
            obtain ⟨h1, h2, h3⟩ := (rightB_iff _ _ _).1 hr
            cases h
            refine ⟨F2 ++ [.bin x.hd g f], ?_, fun e he => ?_, ?_⟩
            · simp only [flF_app, flF, Ex.fl, List.append_nil, List.append_assoc, Nat.zero_add, szF_app]
              simp only [szF, List.map_cons, List.map_nil, List.sum_cons, List.sum_nil, Nat.add_zero]
              congr 4
              rw [hsz, hsz1] at h3
              cases x; simp only [Hd.node, Node.hd, szF] at h2 h3 ⊢; rw [h2, h3]
            · rcases List.mem_append.1 he with he | he
              · exact hw e (by simp [he])
              · simp at he; subst he; exact ⟨h1, by show 6 < x.kind; omega, hw g (by simp), hw f (by simp)⟩
            · simp [Ex.szs, Ex.dps]; omega
          · cases h
theorem forest_of : ∀ (l : List Node) (F : List Ex) (sd : List Nat × List Nat), (∀ e ∈ F, e.wf) → l.foldlM stepN (F.flatMap Ex.szs, F.flatMap Ex.dps) = some sd →
    ∃ G : List Ex, flF 0 F ++ l = flF 0 G ∧ (∀ e ∈ G, e.wf) ∧ sd = (G.flatMap Ex.szs, G.flatMap Ex.dps)
  | [], F, sd, hw, h => by simp at h; exact ⟨F, by simp, hw, h.symm⟩
  | x :: l, F, sd, hw, h => by
    rw [List.foldlM_cons] at h
    cases hx : stepN (F.flatMap Ex.szs, F.flatMap Ex.dps) x with
    | none => simp [hx] at h
    | some sd1 =>
      obtain ⟨G, e1, e2, rfl⟩ := forest_step hw hx
      rw [hx] at h
      obtain ⟨H, f1, f2, f3⟩ := forest_of l G sd e2 h
      exact ⟨H, by rw [← f1, ← e1]; simp, f2, f3⟩
theorem sizesF_forest {l : List Node} {sd : List Nat × List Nat} (h : sizesF l = some sd) : ∃ G : List Ex, l = flF 0 G ∧ (∀ e ∈ G, e.wf) ∧ sd = (G.flatMap Ex.szs, G.flatMap Ex.dps) := by
  have := forest_of l [] sd (by simp) h
  simpa [flF] using this
theorem sizesF_flF {F : List Ex} (h : ∀ e ∈ F, e.wf) : sizesF (flF 0 F) = some (F.flatMap Ex.szs, F.flatMap Ex.dps) := by
  have := fold_flF F [] [] h rfl
  simpa [sizesF] using this
/-! ### what Sizes keeps -/
theorem sizesF_next {l : List Node} {k : Nat} {sd : List Nat × List Nat} (h : sizesF (l.take k) = some sd) (hk : k < l.length) : sizesF (l.take (k + 1)) = stepN sd (l.getD k default) := by
  unfold sizesF at h ⊢
  rw [List.take_add_one, List.foldlM_append, h, List.getElem?_eq_getElem hk]
  simp [List.getD_eq_getElem?_getD, hk]
theorem sizesF_stop {l : List Node} {k : Nat} {sd : List Nat × List Nat} (h : sizesF (l.take k) = some sd) (hk : k < l.length) (h2 : stepN sd (l.getD k default) = none) : sizesF l = none := by
  have h3 := sizesF_next h hk
  rw [h2] at h3
  unfold sizesF at h3 ⊢
  rw [← List.take_append_drop (k + 1) l, List.foldlM_append, h3]; rfl
theorem Ex.szs_bd : ∀ (e : Ex) (j : Nat), j < e.sz → 1 ≤ e.szs.getD j 0 ∧ e.szs.getD j 0 ≤ j + 1
  | .leaf _, j, h => by simp [Ex.sz] at h; subst h; simp [Ex.szs]
  | .un _ e, j, h => by
    simp only [Ex.sz] at h
    simp only [Ex.szs, List.getD_eq_getElem?_getD]
    by_cases hj : j < e.sz
    · rw [List.getElem?_append_left (by rw [e.szs_length]; exact hj), ← List.getD_eq_getElem?_getD]; exact e.szs_bd j hj
    · have : j = e.sz := by omega
      subst this
      rw [List.getElem?_append_right (by rw [e.szs_length]; exact Nat.le_refl _), e.szs_length]; simp
  | .bin _ e f, j, h => by
    simp only [Ex.sz] at h
    simp only [Ex.szs, List.getD_eq_getElem?_getD]
    by_cases hj : j < e.sz
    · rw [List.append_assoc, List.getElem?_append_left (by rw [e.szs_length]; exact hj), ← List.getD_eq_getElem?_getD]; exact e.szs_bd j hj
    · by_cases hj2 : j < e.sz + f.sz
      · rw [List.getElem?_append_left (by simp [e.szs_length, f.szs_length]; exact hj2), List.getElem?_append_right (by rw [e.szs_length]; omega), e.szs_length, ← List.getD_eq_getElem?_getD]
        have := f.szs_bd (j - e.sz) (by omega)
        omega
      · have : j = e.sz + f.sz := by omega
        subst this
        rw [List.getElem?_append_right (by simp [e.szs_length, f.szs_length])]; simp [e.szs_length, f.szs_length]
theorem Ex.dps_bd : ∀ (e : Ex) (j : Nat), j < e.sz → 1 ≤ e.dps.getD j 0 ∧ e.dps.getD j 0 ≤ j + 1
  | .leaf _, j, h => by simp [Ex.sz] at h; subst h; simp [Ex.dps]
  | .un _ e, j, h => by
    simp only [Ex.sz] at h
    simp only [Ex.dps, List.getD_eq_getElem?_getD]
    by_cases hj : j < e.sz
    · rw [List.getElem?_append_left (by rw [e.dps_length]; exact hj), ← List.getD_eq_getElem?_getD]; exact e.dps_bd j hj
    · have : j = e.sz := by omega
      subst this
      have := e.dp_le
      rw [List.getElem?_append_right (by rw [e.dps_length]; exact Nat.le_refl _), e.dps_length]; simp; omega
  | .bin _ e f, j, h => by
    simp only [Ex.sz] at h
    simp only [Ex.dps, List.getD_eq_getElem?_getD]
    by_cases hj : j < e.sz
    · rw [List.append_assoc, List.getElem?_append_left (by rw [e.dps_length]; exact hj), ← List.getD_eq_getElem?_getD]; exact e.dps_bd j hj
    · by_cases hj2 : j < e.sz + f.sz
      · rw [List.getElem?_append_left (by simp [e.dps_length, f.dps_length]; exact hj2), List.getElem?_append_right (by rw [e.dps_length]; omega), e.dps_length, ← List.getD_eq_getElem?_getD]
        have := f.dps_bd (j - e.sz) (by omega)
        omega
      · have : j = e.sz + f.sz := by omega
        subst this
        have := e.dp_le
        have := f.dp_le
        rw [List.getElem?_append_right (by simp [e.dps_length, f.dps_length])]; simp [e.dps_length, f.dps_length]; omega
theorem flat_bd (g : Ex → List Nat) (hg : ∀ e : Ex, (g e).length = e.sz) (hb : ∀ (e : Ex) (j : Nat), j < e.sz → 1 ≤ (g e).getD j 0 ∧ (g e).getD j 0 ≤ j + 1) :
    ∀ (F : List Ex) (j : Nat), j < szF F → 1 ≤ (F.flatMap g).getD j 0 ∧ (F.flatMap g).getD j 0 ≤ j + 1
  | [], j, h => by simp [szF] at h
  | e :: F, j, h => by
    simp only [szF, List.map_cons, List.sum_cons] at h
    simp only [List.flatMap_cons, List.getD_eq_getElem?_getD]
    by_cases hj : j < e.sz
    · rw [List.getElem?_append_left (by rw [hg]; exact hj), ← List.getD_eq_getElem?_getD]; exact hb e j hj
    · rw [List.getElem?_append_right (by rw [hg]; omega), hg, ← List.getD_eq_getElem?_getD]
      have := flat_bd g hg hb F (j - e.sz) (by unfold szF; omega)
      omega
theorem sizesF_bounds {l : List Node} {s d : List Nat} (h : sizesF l = some (s, d)) : s.length = l.length ∧ d.length = l.length ∧ (∀ j, j < l.length → 1 ≤ s.getD j default ∧ s.getD j default ≤ j + 1) ∧ (∀ j, j < l.length → 1 ≤ d.getD j default ∧ d.getD j default ≤ j + 1) := by
  obtain ⟨G, rfl, hw, e⟩ := sizesF_forest h
  cases e
  rw [flF_length, szs_lenF, dps_lenF]
  exact ⟨rfl, rfl, flat_bd Ex.szs Ex.szs_length Ex.szs_bd G, flat_bd Ex.dps Ex.dps_length Ex.dps_bd G⟩
end Go.Proofs.Yteohklfoggiojaa
