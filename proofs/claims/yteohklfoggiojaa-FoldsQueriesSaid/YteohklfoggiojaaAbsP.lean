/-
  The abstract layer, boxes under other numbers; drawn regions that append. Over whatever program; no program in sight.
-/
import Derived.Test.YteohklfoggiojaaAbsM
set_option linter.unusedSimpArgs false
set_option linter.unusedVariables false
set_option linter.constructorNameAsVariable false
namespace Go.AL
open Go.RowKit
set_option linter.unusedSimpArgs false
set_option linter.unusedVariables false
/-! ### boxes under other numbers -/
mutual
def AV.ren (f : Nat → Nat) : AV → AV
  | .bp b off => .bp (f b) off
  | .agg cs => .agg (renL f cs)
  | .tup cs => .tup (renL f cs)
  | .fn g cs => .fn g (renL f cs)
  | .opt p v => .opt p (AV.ren f v)
  | .any => .any
  | .lit v => .lit v
  | .ro sz xs => .ro sz xs
  | .rop cs => .rop cs
  | .own r sz off len => .own r sz off len
  | .rp r sz i j => .rp r sz i j
def renL (f : Nat → Nat) : List AV → List AV
  | [] => []
  | c :: cs => AV.ren f c :: renL f cs
end
theorem renL_eq (f : Nat → Nat) : ∀ cs, renL f cs = cs.map (AV.ren f)
  | [] => by simp [renL]
  | c :: cs => by simp [renL, renL_eq f cs]
theorem V.ren {w : World} {S : Nat → Prop} {γ γ' : List Nat} {ρ : List Value} {b : Bool} {a : AV} {u : Value} (h : V w S γ ρ b a u) (f : Nat → Nat)
    (hγ : ∀ (k : Nat) (g : Nat), γ[k]? = some g → γ'[f k]? = some g) : V w S γ' ρ b (a.ren f) u := by
  induction h with
  | any => simp only [AV.ren]; exact .any
  | lit => simp only [AV.ren]; exact .lit
  | opt _ h' ih => simp only [AV.ren]; exact .opt ih h'
  | agg hl _ ih =>
    simp only [AV.ren, renL_eq]
    refine .agg (by simpa using hl) fun i c u h1 h2 => ?_
    rw [List.getElem?_map] at h1
    obtain ⟨c0, hc, rfl⟩ := Option.map_eq_some_iff.1 h1
    exact ih i c0 u hc h2
  | tup hl _ ih =>
    simp only [AV.ren, renL_eq]
    refine .tup (by simpa using hl) fun i c u h1 h2 => ?_
    rw [List.getElem?_map] at h1
    obtain ⟨c0, hc, rfl⟩ := Option.map_eq_some_iff.1 h1
    exact ih i c0 u hc h2
  | fn hl _ ih =>
    simp only [AV.ren, renL_eq]
    refine .fn (by simpa using hl) fun i c u h1 h2 => ?_
    rw [List.getElem?_map] at h1
    obtain ⟨c0, hc, rfl⟩ := Option.map_eq_some_iff.1 h1
    exact ih i c0 u hc h2
  | ro U hn hc hm hz hA hv _ => simp only [AV.ren]; exact .ro U hn hc hm hz hA fun i r j x h1 h2 => (hv i r j x h1 h2).closed true
  | rop U hs hcell hv _ => simp only [AV.ren]; exact .rop U hs hcell fun j x h1 => (hv j x h1).closed true
  | own h h0 hlen h1 hm hA => simp only [AV.ren]; exact .own h h0 hlen h1 hm hA
  | rp h => simp only [AV.ren]; exact .rp h
  | bp h => simp only [AV.ren]; exact .bp (hγ _ _ h)
def permB (σ τ : List Nat) (n : Nat) : Bool :=
  Nat.beq σ.length n && (List.range n).all fun i => Nat.blt (σ.getD i n) n && Nat.beq (τ.getD (σ.getD i n) n) i && Nat.blt (τ.getD i n) n && Nat.beq (σ.getD (τ.getD i n) n) i
theorem permB_spec {σ τ : List Nat} {n : Nat} (h : permB σ τ n = true) : σ.length = n ∧ ∀ i, i < n → σ.getD i n < n ∧ τ.getD (σ.getD i n) n = i ∧ τ.getD i n < n ∧ σ.getD (τ.getD i n) n = i := by
  simp only [permB, Bool.and_eq_true, List.all_eq_true, List.mem_range] at h
  refine ⟨Nat.eq_of_beq_eq_true h.1, fun i hi => ?_⟩
  obtain ⟨⟨⟨h1, h2⟩, h3⟩, h4⟩ := h.2 i hi
  exact ⟨Nat.le_of_ble_eq_true h1, Nat.eq_of_beq_eq_true h2, Nat.le_of_ble_eq_true h3, Nat.eq_of_beq_eq_true h4⟩
def renE (f : Nat → Nat) : List (Nat × AV) → List (Nat × AV)
  | [] => []
  | (k, v) :: t => (k, v.ren f) :: renE f t
theorem eget_ren (f : Nat → Nat) (s : Nat) : ∀ env, eget (renE f env) s = (eget env s).ren f
  | [] => by simp [renE, eget, AV.ren]
  | (k, v) :: t => by
    simp only [renE, eget]
    split
    · rfl
    · exact eget_ren f s t
def ASt.perm (σ τ : List Nat) (st : ASt) : ASt := ⟨renE (fun b => τ.getD b b) st.env, σ.map fun i => (st.boxes.getD i []).map (AV.ren fun b => τ.getD b b), st.rows⟩
theorem Rel.perm {w0 : World} {S0 : Stab} {n : Nat} {st : ASt} {a : Act} {w : World} (h : Rel w0 S0 n st a w) (σ τ : List Nat) (hp : permB σ τ st.boxes.length = true) : Rel w0 S0 n (st.perm σ τ) a w := by
  obtain ⟨S, γ, ρ, h⟩ := h
  obtain ⟨hl, hall⟩ := permB_spec hp
  have hnb := h.heap.nb
  obtain ⟨m, hm⟩ : ∃ m, st.boxes.length = m := ⟨_, rfl⟩
  rw [hm] at hl hall hnb
  have hsome : ∀ {α : Type} (l : List α) (i : Nat) (d : α), i < l.length → l[i]? = some (l.getD i d) := fun l i d hi => by
    rw [List.getD_eq_getElem?_getD, List.getElem?_eq_getElem hi]; rfl
  have hσ : ∀ i, i < m → σ[i]? = some (σ.getD i m) := fun i hi => by
    rw [List.getD_eq_getElem?_getD, List.getElem?_eq_getElem (by omega)]; rfl
  have hτ : ∀ i, i < m → τ.getD i i = τ.getD i m := fun i hi => by
    obtain ⟨_, _, h3, _⟩ := hall i hi
    rw [List.getD_eq_getElem?_getD, List.getD_eq_getElem?_getD] at *
    cases hq : τ[i]? with
    | none => rw [hq] at h3; simp at h3
    | some x => rfl
  have fwd : ∀ (k : Nat) (g : Nat), γ[k]? = some g → (σ.map fun i => γ.getD i 0)[τ.getD k k]? = some g := fun k g hk => by
    have hkm : k < m := by rw [← hnb]; exact (List.getElem?_eq_some_iff.1 hk).1
    obtain ⟨_, _, h3, h4⟩ := hall k hkm
    rw [hτ k hkm, List.getElem?_map, hσ _ h3, h4]
    simp [List.getD_eq_getElem?_getD, hk]
  have bwd : ∀ (k : Nat) (g : Nat), (σ.map fun i => γ.getD i 0)[k]? = some g → k < m ∧ γ[σ.getD k m]? = some g := fun k g hk => by
    rw [List.getElem?_map] at hk
    have hkm : k < m := by
      obtain ⟨x, hx, _⟩ := Option.map_eq_some_iff.1 hk
      rw [← hl]; exact (List.getElem?_eq_some_iff.1 hx).1
    obtain ⟨h1, _, _, _⟩ := hall k hkm
    rw [hσ k hkm] at hk
    simp only [Option.map_some, Option.some.injEq] at hk
    refine ⟨hkm, ?_⟩
    rw [← hk]
    exact hsome γ _ _ (by omega)
  refine ⟨S, σ.map (fun i => γ.getD i 0), ρ, h.below, h.s0, h.sw, ?_, h.size, h.defs, fun s => ?_⟩
  · have hh := h.heap
    refine ⟨by simp [ASt.perm], hh.nr, fun k cs g hk hg => ?_, fun r rw_ v h1 h2 => ?_, fun i j g h1 h2 => ?_, fun k r g rw_ v h1 h2 h3 => ?_, hh.rinj⟩
    · obtain ⟨hkm, hg2⟩ := bwd k g hg
      obtain ⟨h1, _, _, _⟩ := hall k hkm
      simp only [ASt.perm, List.getElem?_map] at hk
      rw [hσ k hkm] at hk
      simp only [Option.map_some, Option.some.injEq] at hk
      have hb : st.boxes[σ.getD k m]? = some (st.boxes.getD (σ.getD k m) []) := hsome st.boxes _ _ (by omega)
      obtain ⟨e1, e2, us, ty, e3, e4, e5⟩ := hh.box _ _ g hb hg2
      refine ⟨e1, e2, us, ty, e3, by rw [← hk]; simpa using e4, fun j c hj => ?_⟩
      rw [← hk, List.getElem?_map] at hj
      obtain ⟨c0, hc, rfl⟩ := Option.map_eq_some_iff.1 hj
      obtain ⟨u, u1, u2, u3⟩ := e5 j c0 hc
      exact ⟨u, u1, u2, u3.ren _ fwd⟩
    · obtain ⟨e1, e2, e3, cells, e4, e5⟩ := hh.row r rw_ v h1 h2
      refine ⟨e1, e2, e3, cells, e4, fun i x j c hi hj => ?_⟩
      obtain ⟨u, u1, u2, u3⟩ := e5 i x j c hi hj
      exact ⟨u, u1, u2, u3.closed true⟩
    · obtain ⟨hi, hi2⟩ := bwd i g h1
      obtain ⟨hj, hj2⟩ := bwd j g h2
      have := hh.inj _ _ g hi2 hj2
      have a1 := (hall i hi).2.1
      have a2 := (hall j hj).2.1
      rw [this] at a1
      rw [← a1, a2]
    · obtain ⟨hk, hk2⟩ := bwd k g h1
      exact hh.sep _ r g rw_ v hk2 h2 h3
  · simp only [ASt.perm, eget_ren]
    exact (h.env s).ren _ fwd
theorem Wk.perm {s s' : ASt} (σ τ : List Nat) (hp : permB σ τ s.boxes.length = true) (h1 : (s.perm σ τ).boxes = s'.boxes) (h2 : s.rows = s'.rows) (h3 : subE (renE (fun b => τ.getD b b) s.env) s'.env) : Wk s s' :=
  Wk.trans (fun _ _ _ _ _ hr => hr.perm σ τ hp) (Wk.of h1 h2 h3)
/-! ### boxes that are written no more -/
mutual
def AV.frzB (boxes : List (List AV)) : AV → AV
  | .bp b off => match boxes[b]? with
    | some cs => bif cs.all AV.cl then .rop (cs.drop off) else .any
    | none => .any
  | .agg cs => .agg (frzBL boxes cs)
  | .tup cs => .tup (frzBL boxes cs)
  | .fn g cs => .fn g (frzBL boxes cs)
  | .opt p v => .opt p (AV.frzB boxes v)
  | .any => .any
  | .lit v => .lit v
  | .ro sz xs => .ro sz xs
  | .rop cs => .rop cs
  | .own r sz off len => .own r sz off len
  | .rp r sz i j => .rp r sz i j
def frzBL (boxes : List (List AV)) : List AV → List AV
  | [] => []
  | c :: cs => AV.frzB boxes c :: frzBL boxes cs
end
theorem frzBL_eq (boxes : List (List AV)) : ∀ cs, frzBL boxes cs = cs.map (AV.frzB boxes)
  | [] => by simp [frzBL]
  | c :: cs => by simp [frzBL, frzBL_eq boxes cs]
theorem V.frzB {w : World} {B : Nat} {S : Nat → Prop} {γ : List Nat} {ρ : List Value} {boxes : List (List AV)} {rows : List (Option Row)} (hr : HR w B S γ ρ boxes rows) {b : Bool} {a : AV} {u : Value} (h : V w S γ ρ b a u) :
    V w (fun g => S g ∨ boxBlk boxes γ g) [] ρ b (a.frzB boxes) u := by
  have mono : ∀ {b : Bool} {a : AV} {u : Value} {γ' : List Nat} {ρ' : List Value}, V w S γ' ρ' b a u → V w (fun g => S g ∨ boxBlk boxes γ g) γ' ρ' b a u := fun hv => hv.mono (fun _ _ _ h => h) (fun _ h => .inl h) (fun _ _ h => h) (fun _ _ h => h)
  induction h with
  | any => simp only [AV.frzB]; exact .any
  | lit => simp only [AV.frzB]; exact .lit
  | opt _ h' ih => simp only [AV.frzB]; exact .opt ih h'
  | agg hl _ ih =>
    simp only [AV.frzB, frzBL_eq]
    refine .agg (by simpa using hl) fun i c u h1 h2 => ?_
    rw [List.getElem?_map] at h1
    obtain ⟨c0, hc, rfl⟩ := Option.map_eq_some_iff.1 h1
    exact ih i c0 u hc h2
  | tup hl _ ih =>
    simp only [AV.frzB, frzBL_eq]
    refine .tup (by simpa using hl) fun i c u h1 h2 => ?_
    rw [List.getElem?_map] at h1
    obtain ⟨c0, hc, rfl⟩ := Option.map_eq_some_iff.1 h1
    exact ih i c0 u hc h2
  | fn hl _ ih =>
    simp only [AV.frzB, frzBL_eq]
    refine .fn (by simpa using hl) fun i c u h1 h2 => ?_
    rw [List.getElem?_map] at h1
    obtain ⟨c0, hc, rfl⟩ := Option.map_eq_some_iff.1 h1
    exact ih i c0 u hc h2
  | ro U hn hc hm hz hA hv _ =>
    simp only [AV.frzB]
    exact mono (.ro U hn hc hm hz hA fun i r j x h1 h2 => (hv i r j x h1 h2).closed true)
  | rop U hs hcell hv _ =>
    simp only [AV.frzB]
    exact mono (.rop U hs hcell fun j x h1 => (hv j x h1).closed true)
  | own h h0 hlen h1 hm hA => simp only [AV.frzB]; exact .own h h0 hlen h1 hm hA
  | rp h => simp only [AV.frzB]; exact .rp h
  | @bp k off g hγ =>
    simp only [AV.frzB]
    cases hb : boxes[k]? with
    | none => exact .any
    | some cs =>
      simp only
      cases hcl : cs.all AV.cl with
      | false => exact .any
      | true =>
        simp only [cond_true]
        obtain ⟨e1, e2, us, ty, e3, e4, e5⟩ := hr.box k cs g hb hγ
        have hcell : ∀ j c, cs[j]? = some c → ∃ u, us[j]? = some u ∧ V w S [] ρ true c u := fun j c hj => by
          obtain ⟨u, u1, u2, u3⟩ := e5 j c hj
          exact ⟨u, u1, (u3.cl (List.all_eq_true.1 hcl c (List.mem_of_getElem? hj))).closed true⟩
        refine V.rop (fun j => us.getD (off + j) Go.undef) (.inr ⟨k, cs, hb, hγ⟩) (fun j x hj => ?_) fun j x hj => ?_
        · rw [List.getElem?_drop] at hj
          obtain ⟨u, u1, _⟩ := hcell _ x hj
          rw [addr_add, cell_of_row w g (off + j) us ty (0, 0) e3, u1]
          simp [Array.getD_eq_getD_getElem?, u1]
        · rw [List.getElem?_drop] at hj
          obtain ⟨u, u1, u2⟩ := hcell _ x hj
          have : us.getD (off + j) Go.undef = u := by simp [Array.getD_eq_getD_getElem?, u1]
          rw [this]
          exact mono (u2.closed true)
def frzBE (boxes : List (List AV)) : List (Nat × AV) → List (Nat × AV)
  | [] => []
  | (k, v) :: t => (k, v.frzB boxes) :: frzBE boxes t
theorem eget_frzB (boxes : List (List AV)) (s : Nat) : ∀ env, eget (frzBE boxes env) s = (eget env s).frzB boxes
  | [] => by simp [frzBE, eget, AV.frzB]
  | (k, v) :: t => by
    simp only [frzBE, eget]
    split
    · rfl
    · exact eget_frzB boxes s t
def ASt.frzB (st : ASt) : ASt := ⟨frzBE st.boxes st.env, [], st.rows⟩
theorem Rel.frzB {w0 : World} {S0 : Stab} {n : Nat} {st : ASt} {a : Act} {w : World} (h : Rel w0 S0 n st a w) : Rel w0 S0 n st.frzB a w := by
  obtain ⟨S, γ, ρ, h⟩ := h
  have hlk : ∀ k, KeepL k w S → KeepL k w (fun g => S g ∨ boxBlk st.boxes γ g) := fun k hk => hk.less fun b hb => by
    rcases hb with hb | ⟨k, cs, h1, h2⟩
    · exact .inl hb
    · obtain ⟨_, _, us, ty, e3, _⟩ := h.heap.box k cs b h1 h2
      exact .inr ⟨_, _, _, e3⟩
  refine ⟨fun g => S g ∨ boxBlk st.boxes γ g, [], ρ, h.below, ⟨fun b hb => ?_, hlk _ h.s0.2⟩, fun b hb => ?_, ?_, h.size, h.defs.map hlk, fun s => ?_⟩
  · rcases hb with hb | ⟨k, cs, h1, h2⟩
    · exact h.s0.1 b hb
    · exact .inr (h.heap.box k cs b h1 h2).1
  · rcases hb with hb | ⟨k, cs, h1, h2⟩
    · exact h.sw b hb
    · obtain ⟨_, _, us, ty, e3, _⟩ := h.heap.box k cs b h1 h2
      rcases Nat.lt_or_ge b w.heap.size with h' | h'
      · exact h'
      · rw [Array.getElem?_eq_none h'] at e3; cases e3
  · have hh := h.heap
    refine ⟨rfl, hh.nr, fun k cs g hk => by simp [ASt.frzB] at hk, fun r rw_ v h1 h2 => ?_, fun i j g h1 => by simp at h1, fun k r g rw_ v h1 => by simp at h1, hh.rinj⟩
    obtain ⟨e1, e2, e3, cells, e4, e5⟩ := hh.row r rw_ v h1 h2
    refine ⟨e1, e2, fun g hg hs => ?_, cells, e4, fun i x j c hi hj => ?_⟩
    · rcases hs with hs | ⟨k, cs, h3, h4⟩
      · exact e3 g hg hs
      · exact hh.sep k r g rw_ v h4 h1 h2 hg
    · obtain ⟨u, u1, u2, u3⟩ := e5 i x j c hi hj
      exact ⟨u, u1, u2, (u3.mono (fun _ _ _ h => h) (fun _ h => .inl h) (fun _ _ h => h) (fun _ _ h => h)).closed true⟩
  · simp only [ASt.frzB, eget_frzB]
    exact V.frzB h.heap (h.env s)
theorem AWp.frzB {P : Program} {n : Nat} {c : Code} {Q : Exit → ASt → Prop} {st : ASt} (h : AWp P n c Q st.frzB) : AWp P n c Q st := AWp.weaken (fun _ _ _ _ _ hr => hr.frzB) h
theorem AWp.loopN {P : Program} {n : Nat} {c : Code} {Q : Exit → ASt → Prop} {st : ASt} (N : Nat) (p : Nat → Prop) (inv : Nat → ASt) (h0 : Wk st (inv 0))
    (h : ∀ k, k ≤ N → (∀ j, j < k → p j) → AWp P n c (aThen (fun s => k < N ∧ p k ∧ Wk s (inv (k + 1))) Q) (inv k)) : AWp P n (.loop c) Q st := by
  refine AWp.loop (I := fun k : Nat => k ≤ N ∧ ∀ j, j < k → p j) inv (fun k => N - k) 0 ⟨Nat.zero_le _, fun j h => absurd h (Nat.not_lt_zero j)⟩ h0 ?_
  rintro k ⟨hk, hall⟩
  refine (h k hk hall).mono fun e s hq => ?_
  cases e <;> try exact hq
  obtain ⟨h1, h2, h3⟩ := hq
  refine ⟨k + 1, ⟨by omega, fun j hj => ?_⟩, h3, by omega⟩
  by_cases hjk : j = k
  · rw [hjk]; exact h2
  · exact hall j (by omega)
end Go.AL
namespace Go.AL
open Go.RowKit
set_option linter.unusedSimpArgs false
set_option linter.unusedVariables false
/-! ### drawn regions that append to rows of the call's own -/
mutual
def AV.nor : AV → Bool
  | .lit _ => true
  | .ro _ _ => true
  | .rop _ => true
  | .bp _ _ => true
  | .agg cs => norL cs
  | .tup cs => norL cs
  | .fn _ cs => norL cs
  | .any => false
  | .own _ _ _ _ => false
  | .rp _ _ _ _ => false
  | .opt _ _ => false
def norL : List AV → Bool
  | [] => true
  | c :: cs => AV.nor c && norL cs
end
mutual
theorem nor_kill (r : Nat) : ∀ (a : AV), a.nor = true → a.kill r = a
  | .lit _, _ => by simp only [AV.kill]
  | .ro _ _, _ => by simp only [AV.kill]
  | .rop _, _ => by simp only [AV.kill]
  | .bp _ _, _ => by simp only [AV.kill]
  | .agg cs, h => by simp only [AV.nor] at h; simp only [AV.kill]; rw [norL_kill r cs h]
  | .tup cs, h => by simp only [AV.nor] at h; simp only [AV.kill]; rw [norL_kill r cs h]
  | .fn g cs, h => by simp only [AV.nor] at h; simp only [AV.kill]; rw [norL_kill r cs h]
  | .any, h => by simp only [AV.nor] at h; cases h
  | .own _ _ _ _, h => by simp only [AV.nor] at h; cases h
  | .rp _ _ _ _, h => by simp only [AV.nor] at h; cases h
  | .opt _ _, h => by simp only [AV.nor] at h; cases h
theorem norL_kill (r : Nat) : ∀ (cs : List AV), norL cs = true → killL r cs = cs
  | [], _ => by simp only [killL]
  | c :: cs, h => by
    simp only [norL, Bool.and_eq_true] at h
    simp only [killL]
    rw [nor_kill r c h.1, norL_kill r cs h.2]
end
mutual
theorem kill_nor (r : Nat) : ∀ (a : AV), (a.kill r).nor = true → a.kill r = a
  | .lit _, _ => by simp only [AV.kill]
  | .ro _ _, _ => by simp only [AV.kill]
  | .rop _, _ => by simp only [AV.kill]
  | .bp _ _, _ => by simp only [AV.kill]
  | .agg cs, h => by simp only [AV.kill, AV.nor] at h; simp only [AV.kill]; rw [killL_nor r cs h]
  | .tup cs, h => by simp only [AV.kill, AV.nor] at h; simp only [AV.kill]; rw [killL_nor r cs h]
  | .fn g cs, h => by simp only [AV.kill, AV.nor] at h; simp only [AV.kill]; rw [killL_nor r cs h]
  | .any, h => by simp only [AV.kill]
  | .own r' sz off len, h => by
    simp only [AV.kill] at h ⊢
    split
    · rename_i e; rw [if_pos e] at h; simp [AV.nor] at h
    · rfl
  | .rp r' sz i f, h => by
    simp only [AV.kill] at h ⊢
    split
    · rename_i e; rw [if_pos e] at h; simp [AV.nor] at h
    · rfl
  | .opt _ _, h => by simp [AV.kill, AV.nor] at h
theorem killL_nor (r : Nat) : ∀ (cs : List AV), norL (killL r cs) = true → killL r cs = cs
  | [], _ => by simp only [killL]
  | c :: cs, h => by
    simp only [killL, norL, Bool.and_eq_true] at h
    simp only [killL]
    rw [kill_nor r c h.1, killL_nor r cs h.2]
end
def killO : Option Nat → AV → AV
  | none => fun a => a
  | some r => AV.kill r
theorem nor_killO (r : Option Nat) {a : AV} (h : a.nor = true) : killO r a = a := by
  cases r with
  | none => rfl
  | some r => exact nor_kill r a h
theorem killO_nor (r : Option Nat) {a : AV} (h : (killO r a).nor = true) : killO r a = a := by
  cases r with
  | none => rfl
  | some r => exact kill_nor r a h
theorem killO_lit (r : Option Nat) (v : Value) : killO r (.lit v) = .lit v := by cases r <;> simp [killO, AV.kill]
theorem killO_any (r : Option Nat) : killO r .any = .any := by cases r <;> simp [killO, AV.kill]
def isBs : Op → Bool
  | .buildSlice _ _ _ => true
  | _ => false
def isAp : Op → Bool
  | .call ⟨.builtin .append, _, _⟩ => true
  | _ => false
def isW (op : Op) : Bool := isBs op || isAp op
def isBx : Op → Bool
  | .box _ _ => true
  | .assign _ => true
  | _ => false
def memQ (op : Op) : Bool := memN op && !isW op && !isBx op
def pres (P : Program) (R : List (Option Row)) (ev : Operand → AV) : Op → (AV × Option Nat × List (Option Row)) × Prop
  | .buildSlice t len parts => match apT P t with
    | some q => match partsA q.2.1 0 (parts.toList.map fun p => (p.1, un (ev p.2))) with
      | some xs => ((.own R.length q.2.1 0 len, none, R ++ [some ⟨q.1, q.2.1, xs⟩]), uoks true ev (parts.toList.map (·.2)) ∧ xs.length = len ∧ len * q.2.1 ≤ 16777216)
      | none => ((.any, none, R), False)
    | none => ((.any, none, R), False)
  | .call ⟨.builtin .append, args, ts⟩ => match args.toList, ts.toList with
    | [s, x], [t, t'] => match apT P t, elemsOf R (un (ev x)) with
      | some q, some y => match un (ev s) with
        | .own r sz off len => match getRow R r sz with
          | some rw_ => ((.own r sz 0 (len + y.2.length), some r, R.set r (some { rw_ with elems := rw_.elems.take len ++ y.2 })),
              t = t' ∧ uok true (ev s) ∧ uok true (ev x) ∧ (y.1 = q.2.1 ∨ y.2 = []) ∧ off = 0 ∧ sz = q.2.1 ∧ rw_.ty = q.1 ∧ (len + y.2.length) * q.2.2 ≤ 140737488355328)
          | none => ((.any, none, R), False)
        | _ => ((.any, none, R), False)
      | _, _ => ((.any, none, R), False)
    | _, _ => ((.any, none, R), False)
  | _ => ((.any, none, R), False)
variable {P : Program} {n : Nat}
theorem pres_W {R : List (Option Row)} {ev : Operand → AV} {op : Op} (h : (pres P R ev op).2) : isW op = true := by
  unfold pres at h
  split at h
  · rfl
  · rfl
  · exact h.elim
theorem pres_congr {R : List (Option Row)} {ev ev' : Operand → AV} {op : Op} (h : ∀ x ∈ op.operands.toList, ev x = ev' x) : pres P R ev op = pres P R ev' op := by
  unfold pres
  split
  · rename_i t len parts
    have hx : ∀ p ∈ parts.toList, ev p.2 = ev' p.2 := fun p hp => h p.2 (by simp only [Op.operands]; simp; exact ⟨p.1, by simpa using hp⟩)
    have e : (parts.toList.map fun p : Nat × Operand => (p.1, un (ev p.2))) = parts.toList.map fun p : Nat × Operand => (p.1, un (ev' p.2)) := List.map_congr_left fun p hp => by rw [hx p hp]
    have e2 : uoks true ev (parts.toList.map (·.2)) = uoks true ev' (parts.toList.map (·.2)) := by
      have hm : ∀ x ∈ parts.toList.map (·.2), ev x = ev' x := fun x hx' => by
        obtain ⟨p, hp', rfl⟩ := List.mem_map.1 hx'
        exact hx p hp'
      exact propext ⟨uoks_congr hm, uoks_congr fun x hx' => (hm x hx').symm⟩
    rw [e, e2]
  · rename_i args ts
    have hx : ∀ x ∈ args.toList, ev x = ev' x := fun x hx => h x (by simp [Op.operands, Call.operands]; simpa using hx)
    cases hl : args.toList with
    | nil => rfl
    | cons s l =>
      cases l with
      | nil => rfl
      | cons x l =>
        cases l with
        | nil =>
          rw [hl] at hx
          have e1 := hx s (by simp)
          have e2 := hx x (by simp)
          cases ts.toList with
          | nil => rfl
          | cons t l =>
            cases l with
            | nil => rfl
            | cons t' l =>
              cases l with
              | nil => simp only [e1, e2]
              | cons => rfl
        | cons => rfl
  · rfl
def norEv (ev : Operand → AV) : List Operand → Prop
  | [] => True
  | x :: xs => (ev x).nor = true ∧ norEv ev xs
theorem norEv_mem {ev : Operand → AV} : ∀ {xs : List Operand}, norEv ev xs → ∀ x ∈ xs, (ev x).nor = true
  | [], _, x, hx => by cases hx
  | y :: xs, h, x, hx => by
    rcases List.mem_cons.1 hx with rfl | hx
    · exact h.1
    · exact norEv_mem h.2 x hx
theorem norEv_of {ev : Operand → AV} : ∀ {xs : List Operand}, (∀ x ∈ xs, (ev x).nor = true) → norEv ev xs
  | [], _ => trivial
  | y :: xs, h => ⟨h y (by simp), norEv_of fun x hx => h x (by simp [hx])⟩
theorem norEv_congr {ev ev' : Operand → AV} {xs : List Operand} (h : ∀ x ∈ xs, ev' x = ev x) (hl : norEv ev xs) : norEv ev' xs :=
  norEv_of fun x hx => by rw [h x hx]; exact norEv_mem hl x hx
def stepP (P : Program) (n : Nat) (al : Bool × Bool) (all : List Oper) (o : Oper) (s s' : DSt) : Prop :=
  (memQ o.op = true ∧ o.guard = none ∧ norEv (evF s.f) o.op.operands.toList ∧ ∃ v, v.nor = true ∧ stepV P n s.B s.R all o s.f v ∧ s' = ⟨updO s.f o.dst v, s.B, s.R⟩) ∨
  (memQ o.op = false ∧ isW o.op = false ∧ stepM P n al all o s s') ∨
  (o.guard = none ∧ dok n o.dst ∧ (pres P s.R (evF s.f) o.op).2 ∧ s' = ⟨updO (fun t => killO (pres P s.R (evF s.f) o.op).1.2.1 (s.f t)) o.dst (pres P s.R (evF s.f) o.op).1.1, s.B.map (List.map (killO (pres P s.R (evF s.f) o.op).1.2.1)), (pres P s.R (evF s.f) o.op).1.2.2⟩)
def okPairP (al : Bool) (x y : Op) : Bool := memQ x || memQ y || (!isW x && !isW y && okPair al x y)
theorem memQ_spec {op : Op} (h : memQ op = true) : memN op = true ∧ isW op = false ∧ isSt op = false ∧ isAl op = false := by
  unfold memQ at h
  simp only [Bool.and_eq_true, Bool.not_eq_true'] at h
  refine ⟨h.1.1, h.1.2, ?_, ?_⟩
  · have := h.1.1; revert this; cases op <;> simp [memN, isSt]
  · have := h.1.1; revert this; cases op <;> simp [memN, isAl]
theorem evF_kill {f : Nat → AV} (r : Option Nat) (x : Operand) : evF (fun t => killO r (f t)) x = killO r (evF f x) := by
  cases x with
  | tmp t => rfl
  | const v => exact (killO_lit r v).symm
  | global g => exact (killO_any r).symm
  | func g => exact (killO_lit r _).symm
theorem stepV_evs {B : List (List AV)} {R : List (Option Row)} {all : List Oper} {o : Oper} {f f' : Nat → AV} {v : AV} (hg : o.guard = none) (h : ∀ x ∈ o.op.operands.toList, evF f x = evF f' x) (hs : stepV P n B R all o f v) : stepV P n B R all o f' v := by
  obtain ⟨h1, h2⟩ := hs
  refine ⟨h1, ?_⟩
  rw [hg] at h2 ⊢
  exact apureD_congr h h2
theorem updO_kill (r : Option Nat) (f : Nat → AV) (d : Option Nat) {v : AV} (hv : v.nor = true) : (fun t => killO r (updO f d v t)) = updO (fun t => killO r (f t)) d v := by
  funext s
  cases d with
  | none => rfl
  | some d =>
    simp only [updO]
    split
    · exact nor_killO r hv
    · rfl
theorem stepP_comm {al : Bool × Bool} {all : List Oper} {oi oj : Oper} {s s1 s2 : DSt} (hap : oi.apart all.toArray oj = true) (hok : okPairP al.2 oi.op oj.op = true) (hal : isAl oj.op = true → al.1 = true)
    (h1 : stepP P n al all oi s s1) (h2 : stepP P n al all oj s1 s2) : ∃ s', stepP P n al all oj s s' ∧ stepP P n al all oi s' s2 := by
  obtain ⟨a1, a2, a3⟩ := Oper.apart_spec hap
  obtain ⟨f, B, R⟩ := s
  rcases h1 with ⟨qi, gi, ni, v, nv, hv, rfl⟩ | ⟨qi, wi, hi⟩ | ⟨gi, di, pi, rfl⟩
  · obtain ⟨mi, wi, si, ai⟩ := memQ_spec qi
    rcases h2 with ⟨qj, gj, nj, u, nu, hu, rfl⟩ | ⟨qj, wj, hj⟩ | ⟨gj, dj, pj, rfl⟩
    · simp only at *
      refine ⟨⟨updO f oj.dst u, B, R⟩, .inl ⟨qj, gj, norEv_congr (fun x hx => (evF_upd a1 x hx).symm) nj, u, nu, stepV_back a1 hu, rfl⟩, .inl ⟨qi, gi, norEv_congr (evF_upd a3) ni, v, nv, stepV_put a3 hv, ?_⟩⟩
      rw [updO_comm f v u a2]
    · rcases hj with ⟨⟨ns2, na2⟩, hl2, u, hu, rfl⟩ | ⟨hg2, hd2, hw2, rfl⟩
      · simp only at *
        refine ⟨⟨updO f oj.dst u, B, R⟩, .inr (.inl ⟨qj, wj, .inl ⟨⟨ns2, na2⟩, ⟨fun e1 e2 => lowEv_congr (fun x hx => (evF_upd a1 x hx).symm) (hl2.1 e1 e2), fun e1 e2 => lowEv_congr (fun x hx => (evF_upd a1 x hx).symm) (hl2.2 e1 e2)⟩, u, stepV_back a1 hu, rfl⟩⟩),
          .inl ⟨qi, gi, norEv_congr (evF_upd a3) ni, v, nv, stepV_put a3 hv, ?_⟩⟩
        rw [updO_comm f v u a2]
      · simp only at *
        have hc : wres P B R (evF (updO f oi.dst v)) oj.op = wres P B R (evF f) oj.op := wres_congr (evF_upd a1)
        rw [hc] at hw2
        simp only [hc]
        refine ⟨_, .inr (.inl ⟨qj, wj, .inr ⟨hg2, hd2, hw2, rfl⟩⟩), .inl ⟨qi, gi, norEv_congr (evF_upd a3) ni, v, nv, stepV_memN mi (stepV_put a3 hv), ?_⟩⟩
        simp only
        rw [updO_comm f v _ a2]
    · simp only at *
      have hc : pres P R (evF (updO f oi.dst v)) oj.op = pres P R (evF f) oj.op := pres_congr (evF_upd a1)
      rw [hc] at pj
      simp only [hc]
      have hev : ∀ x ∈ oi.op.operands.toList, evF (updO (fun t => killO (pres P R (evF f) oj.op).1.2.1 (f t)) oj.dst (pres P R (evF f) oj.op).1.1) x = evF f x := fun x hx => by
        rw [evF_upd a3 x hx, evF_kill, nor_killO _ (norEv_mem ni x hx)]
      refine ⟨_, .inr (.inr ⟨gj, dj, pj, rfl⟩), .inl ⟨qi, gi, norEv_congr hev ni, v, nv, stepV_evs gi (fun x hx => (hev x hx).symm) (stepV_memN mi hv), ?_⟩⟩
      simp only
      rw [updO_kill _ f oi.dst nv, updO_comm _ v _ a2]
  · rcases h2 with ⟨qj, gj, nj, u, nu, hu, rfl⟩ | ⟨qj, wj, hj⟩ | ⟨gj, dj, pj, rfl⟩
    · obtain ⟨mj, wj, sj, aj⟩ := memQ_spec qj
      rcases hi with ⟨⟨ns, na⟩, hl, v, hv, rfl⟩ | ⟨hg, hd, hw, rfl⟩
      · simp only at *
        refine ⟨⟨updO f oj.dst u, B, R⟩, .inl ⟨qj, gj, norEv_congr (fun x hx => (evF_upd a1 x hx).symm) nj, u, nu, stepV_back a1 hu, rfl⟩,
          .inr (.inl ⟨qi, wi, .inl ⟨⟨ns, na⟩, ⟨fun e1 e2 => lowEv_congr (evF_upd a3) (hl.1 e1 e2), fun e1 e2 => lowEv_congr (evF_upd a3) (hl.2 e1 e2)⟩, v, stepV_put a3 hv, ?_⟩⟩)⟩
        rw [updO_comm f v u a2]
      · simp only at *
        have hc : wres P B R (evF (updO f oj.dst u)) oi.op = wres P B R (evF f) oi.op := wres_congr (evF_upd a3)
        refine ⟨⟨updO f oj.dst u, B, R⟩, .inl ⟨qj, gj, norEv_congr (fun x hx => (evF_upd a1 x hx).symm) nj, u, nu, stepV_memN mj (stepV_back a1 hu), rfl⟩, .inr (.inl ⟨qi, wi, .inr ⟨hg, hd, by simp only; rw [hc]; exact hw, ?_⟩⟩)⟩
        simp only [hc]
        rw [updO_comm f _ u a2]
    · have hokp : okPair al.2 oi.op oj.op = true := by
        simp only [okPairP, qi, qj, wi, wj] at hok
        simpa using hok
      obtain ⟨s', e1, e2⟩ := stepM_comm hap hokp hal hi hj
      exact ⟨s', .inr (.inl ⟨qj, wj, e1⟩), .inr (.inl ⟨qi, wi, e2⟩)⟩
    · have wj := pres_W pj
      have : memQ oj.op = false := by unfold memQ; rw [wj]; simp
      simp [okPairP, qi, this, wj] at hok
  · have wi := pres_W pi
    have qi : memQ oi.op = false := by unfold memQ; rw [wi]; simp
    rcases h2 with ⟨qj, gj, nj, u, nu, hu, rfl⟩ | ⟨qj, wj, hj⟩ | ⟨gj, dj, pj, rfl⟩
    · obtain ⟨mj, wj, sj, aj⟩ := memQ_spec qj
      simp only at *
      have hev : ∀ x ∈ oj.op.operands.toList, evF (updO (fun t => killO (pres P R (evF f) oi.op).1.2.1 (f t)) oi.dst (pres P R (evF f) oi.op).1.1) x = evF f x := fun x hx => by
        have h3 := norEv_mem nj x hx
        rw [evF_upd a1 x hx, evF_kill] at h3 ⊢
        exact killO_nor _ h3
      have hc : pres P R (evF (updO f oj.dst u)) oi.op = pres P R (evF f) oi.op := pres_congr (evF_upd a3)
      refine ⟨⟨updO f oj.dst u, B, R⟩, .inl ⟨qj, gj, norEv_congr (fun x hx => (hev x hx).symm) nj, u, nu, stepV_evs gj hev (stepV_memN mj hu), rfl⟩, .inr (.inr ⟨gi, di, by simp only; rw [hc]; exact pi, ?_⟩)⟩
      simp only [hc]
      rw [updO_kill _ f oj.dst nu, updO_comm _ _ u a2]
    · simp [okPairP, qi, qj, wi] at hok
    · have wj := pres_W pj
      have qj : memQ oj.op = false := by unfold memQ; rw [wj]; simp
      simp [okPairP, qi, qj, wi] at hok
def reachB (all : Array Oper) (i : Nat) : Nat → Nat → Bool
  | 0, _ => false
  | f + 1, j => match all[j]? with
    | some o => o.after.any fun e => Region.binds .any e && (e.on == i || reachB all i f e.on)
    | none => false
def Closed (all : Array Oper) (listed : Array Bool) : Prop := ∀ (j : Nat) (o : Oper), all[j]? = some o → listed.getD j false = true → ∀ e ∈ o.after, Region.binds .any e = true → listed.getD e.on false = true
theorem reach_listed {all : Array Oper} {listed : Array Bool} {i : Nat} (hc : Closed all listed) : ∀ (f j : Nat) (o : Oper), all[j]? = some o → (∀ e ∈ o.after, Region.binds .any e = true → listed.getD e.on false = true) → reachB all i f j = true → listed.getD i false = true
  | 0, j, o, _, _, h => by simp [reachB] at h
  | f + 1, j, o, ho, hp, h => by
    simp only [reachB, ho] at h
    obtain ⟨e, he, hb⟩ := Array.any_eq_true'.1 h
    simp only [Bool.and_eq_true, Bool.or_eq_true, beq_iff_eq] at hb
    have hl := hp e he hb.1
    rcases hb.2 with h1 | h1
    · rw [← h1]; exact hl
    · cases hk : all[e.on]? with
      | none =>
        cases f with
        | zero => simp [reachB] at h1
        | succ f => simp [reachB, hk] at h1
      | some o2 => exact reach_listed hc f e.on o2 hk (hc e.on o2 hk hl) h1
def memBP (al : Bool × Bool) (ops : Array Oper) : Bool :=
  ((List.range ops.size).all fun i => match ops[i]? with
    | some oi => al.1 || !isAl oi.op
    | none => true) &&
  (List.range ops.size).all fun i => (List.range ops.size).all fun j => match ops[i]?, ops[j]? with
    | some oi, some oj => Nat.ble j i || reachB ops i ops.size j || okPairP al.2 oi.op oj.op
    | _, _ => true
theorem memBP_al {al : Bool × Bool} {ops : Array Oper} (h : memBP al ops = true) {i : Nat} {oi : Oper} (hi : ops[i]? = some oi) (ha : isAl oi.op = true) : al.1 = true := by
  simp only [memBP, Bool.and_eq_true, List.all_eq_true, List.mem_range] at h
  have := h.1 i (Array.getElem?_eq_some_iff.1 hi).1
  rw [hi] at this
  simpa [ha] using this
theorem memBP_pair {al : Bool × Bool} {ops : Array Oper} (h : memBP al ops = true) {i j : Nat} {oi oj : Oper} (hi : ops[i]? = some oi) (hj : ops[j]? = some oj) (hij : i < j)
    (hno : reachB ops i ops.size j ≠ true) : okPairP al.2 oi.op oj.op = true := by
  simp only [memBP, Bool.and_eq_true, List.all_eq_true, List.mem_range] at h
  have := h.2 i (Array.getElem?_eq_some_iff.1 hi).1 j (Array.getElem?_eq_some_iff.1 hj).1
  rw [hi, hj] at this
  simp only [Bool.or_eq_true] at this
  rcases this with (h1 | h1) | h1
  · exact absurd (Nat.le_of_ble_eq_true h1) (by omega)
  · exact absurd h1 hno
  · exact h1
def qP (P : Program) (n : Nat) (al : Bool × Bool) (all : List Oper) (i : Nat) (K : DSt → Prop) (s : DSt) : Prop :=
  match all[i]? with
  | none => K s
  | some o => ∃ s', stepP P n al all o s s' ∧ K s'
def wpAnyP (P : Program) (n : Nat) (al : Bool × Bool) (all : List Oper) (Q : DSt → Prop) : Nat → Array Bool → DSt → Prop
  | 0, listed, s => Region.ready .any all.toArray listed = [] ∧ Q s
  | fuel + 1, listed, s =>
    (Region.ready .any all.toArray listed = [] → Q s) ∧
    ∀ i ∈ Region.ready .any all.toArray listed, qP P n al all i (wpAnyP P n al all Q fuel (listed.setIfInBounds i true)) s
theorem closed_set {all : Array Oper} {listed : Array Bool} {i : Nat} (hc : Closed all listed) (hi : i ∈ Region.ready .any all listed) : Closed all (listed.setIfInBounds i true) := by
  intro j o ho hl e he hb
  refine getD_set_true ?_
  by_cases hij : i = j
  · subst hij
    obtain ⟨_, o', ho', hall⟩ := mem_ready.1 hi
    rw [ho] at ho'
    cases ho'
    exact hall e he hb
  · rw [getD_set_ne false hij] at hl
    exact hc j o ho hl e he hb
theorem getD_tf {listed : Array Bool} {i : Nat} (h0 : listed.getD i true = false) (h1 : listed.getD i false = true) : False := by
  rcases Nat.lt_or_ge i listed.size with h' | h'
  · simp [h'] at h0 h1; rw [h0] at h1; cases h1
  · simp [Array.getElem?_eq_none h'] at h1
theorem wpAnyP_first {al : Bool × Bool} {all : List Oper} {Q : DSt → Prop} {i : Nat} {oi : Oper} (hi : all[i]? = some oi) (hal : ∀ (j : Nat) (o : Oper), all[j]? = some o → isAl o.op = true → al.1 = true) :
    ∀ (fuel : Nat) (listed : Array Bool) (s s1 : DSt), Closed all.toArray listed →
      (∀ j oj, all.toArray[j]? = some oj → j ≠ i → listed.getD j true = false → reachB all.toArray i all.toArray.size j ≠ true → (∀ e ∈ oj.after, Region.binds .any e = true → e.on ≠ i) → oi.apart all.toArray oj = true ∧ okPairP al.2 oi.op oj.op = true) →
      i ∈ Region.ready .any all.toArray listed → stepP P n al all oi s s1 →
      wpAnyP P n al all Q fuel (listed.setIfInBounds i true) s1 → wpAnyP P n al all Q (fuel + 1) listed s := by
  have take : ∀ {K : DSt → Prop} {s s1 : DSt}, stepP P n al all oi s s1 → K s1 → qP P n al all i K s := by
    intro K s s1 hy h
    unfold qP
    simp only [hi]
    exact ⟨s1, hy, h⟩
  intro fuel
  induction fuel with
  | zero =>
    intro listed s s1 hc _ hr hy H
    refine ⟨fun h => (by rw [h] at hr; cases hr), fun j hj => ?_⟩
    by_cases hji : j = i
    · subst hji; exact take hy H
    · have := ready_mono hj hji
      rw [H.1] at this
      cases this
  | succ fuel ih =>
    intro listed s s1 hc hfree hr hy H
    refine ⟨fun h => (by rw [h] at hr; cases hr), fun j hj => ?_⟩
    by_cases hji : j = i
    · subst hji; exact take hy H
    · have h1 := H.2 j (ready_mono hj hji)
      obtain ⟨hjun, oj, hoj, hall⟩ := mem_ready.1 hj
      have hnot : ∀ e ∈ oj.after, Region.binds .any e = true → e.on ≠ i := fun e he hb heq => by
        have h1 := hall e he hb
        rw [heq] at h1
        exact getD_tf (mem_ready.1 hr).1 h1
      have hnr : reachB all.toArray i all.toArray.size j ≠ true := fun h => getD_tf (mem_ready.1 hr).1 (reach_listed hc _ j oj hoj hall h)
      obtain ⟨hap, hok⟩ := hfree j oj hoj hji hjun hnr hnot
      have hoj' : all[j]? = some oj := by simpa using hoj
      unfold qP at h1 ⊢
      simp only [hoj'] at h1 ⊢
      obtain ⟨s2, hs2, hW⟩ := h1
      obtain ⟨s', hs', hs2'⟩ := stepP_comm hap hok (hal j oj hoj') hy hs2
      have hfree' : ∀ k ok, all.toArray[k]? = some ok → k ≠ i → (listed.setIfInBounds j true).getD k true = false → reachB all.toArray i all.toArray.size k ≠ true →
          (∀ e ∈ ok.after, Region.binds .any e = true → e.on ≠ i) → oi.apart all.toArray ok = true ∧ okPairP al.2 oi.op ok.op = true := fun k ok hk hki hun hrc hno => by
        refine hfree k ok hk hki ?_ hrc hno
        by_cases hjk : j = k
        · subst hjk; exact hjun
        · rw [getD_set_ne true hjk] at hun; exact hun
      refine ⟨s', hs', ih (listed.setIfInBounds j true) s' s2 (closed_set hc hj) hfree' (ready_mono hr (Ne.symm hji)) hs2' ?_⟩
      rw [Array.setIfInBounds_comm _ _ hji]
      exact hW
def wpTextP (P : Program) (n : Nat) (al : Bool × Bool) (all : List Oper) (Q : DSt → Prop) : List Oper → DSt → Prop
  | [], s => Q s
  | o :: l, s => ∃ s', stepP P n al all o s s' ∧ wpTextP P n al all Q l s'
theorem wpAnyP_lex {al : Bool × Bool} {all : List Oper} {Q : DSt → Prop} (hm : memBP al all.toArray = true) : ∀ (l : List Oper) (k : Nat) (listed : Array Bool) (s : DSt), (∀ j : Nat, l[j]? = all[k + j]?) → Closed all.toArray listed →
    (∀ j, j < k → listed.getD j true = true) →
    Region.lexFrom .any all.toArray l.length k listed = true → wpTextP P n al all Q l s → wpAnyP P n al all Q l.length listed s
  | [], _, _, _, _, _, _, hB, h => ⟨by simpa [Region.lexFrom] using hB, h⟩
  | o :: l, k, listed, s, hl, hc, hlt, hB, h => by
    have h0 : all[k]? = some o := by simpa using (hl 0).symm
    simp only [List.length_cons, Region.lexFrom, Bool.and_eq_true] at hB
    obtain ⟨⟨hr, hf⟩, hB'⟩ := hB
    obtain ⟨s', hy, hK⟩ := h
    have h0' : all.toArray[k]? = some o := by simpa using h0
    refine wpAnyP_first h0 (fun j oj hj ha => memBP_al hm (by simpa using hj) ha) l.length listed s s' hc (fun j oj hj hne hun hrc hno => ⟨Region.free_spec h0' hf j oj hj hne hun hno, ?_⟩) (by simpa using hr) hy
      (wpAnyP_lex hm l (k + 1) _ _ (fun j => by have := hl (j + 1); simpa [Nat.add_assoc, Nat.add_comm 1 j] using this) (closed_set hc (by simpa using hr)) (fun j hj => ?_) hB' hK)
    · have hjk : k < j := by
        rcases Nat.lt_trichotomy j k with h | h | h
        · rw [hlt j h] at hun; cases hun
        · exact absurd h hne
        · exact h
      exact memBP_pair hm h0' hj hjk hrc
    · by_cases hjk : k = j
      · subst hjk
        simp only [Array.getD_eq_getD_getElem?, Array.getElem?_setIfInBounds]
        simp
        split <;> simp
      · rw [getD_set_ne true hjk]; exact hlt j (by omega)
/-! ### what it says of memory -/
theorem eget_killE (r s : Nat) : ∀ env, eget (killE r env) s = (eget env s).kill r
  | [] => by simp [killE, eget, AV.kill]
  | (k, v) :: t => by
    have ih := eget_killE r s t
    simp only [killE, List.map_cons, eget] at ih ⊢
    split
    · rfl
    · exact ih
def killSt (r : Option Nat) (env : List (Nat × AV)) : List (Nat × AV) := match r with
  | none => env
  | some r => killE r env
theorem eget_killSt (r : Option Nat) (s : Nat) (env : List (Nat × AV)) : eget (killSt r env) s = killO r (eget env s) := by
  cases r with
  | none => rfl
  | some r => exact eget_killE r s env
theorem map_killO_none (B : List (List AV)) : B.map (List.map (killO none)) = B := by
  have : (killO none) = id := rfl
  rw [this]; simp
theorem pres_astep {B : List (List AV)} {R : List (Option Row)} {env : List (Nat × AV)} {op : Op} (h : (pres P R (evA env) op).2) :
    astep P ⟨env, B, R⟩ op (fun v st' => v = (pres P R (evA env) op).1.1 ∧ st' = ⟨killSt (pres P R (evA env) op).1.2.1 env, B.map (List.map (killO (pres P R (evA env) op).1.2.1)), (pres P R (evA env) op).1.2.2⟩) := by
  unfold pres at h ⊢
  split at h
  · rename_i t len parts
    unfold astep
    simp only
    cases e1 : apT P t with
    | none => rw [e1] at h; exact h.elim
    | some q =>
      rw [e1] at h
      simp only at h ⊢
      cases e2 : partsA q.2.1 0 (parts.toList.map fun p => (p.1, un (evA env p.2))) with
      | none => rw [e2] at h; exact h.elim
      | some xs =>
        rw [e2] at h
        simp only at h ⊢
        exact ⟨h.1, h.2.1, h.2.2, trivial, by rw [map_killO_none]; rfl⟩
  · rename_i args ts
    unfold astep
    simp only
    cases hl : args.toList with
    | nil => rw [hl] at h; exact h.elim
    | cons s l =>
      cases l with
      | nil => rw [hl] at h; exact h.elim
      | cons x l =>
        cases l with
        | cons => rw [hl] at h; exact h.elim
        | nil =>
          cases ht : ts.toList with
          | nil => rw [hl, ht] at h; exact h.elim
          | cons t l =>
            cases l with
            | nil => rw [hl, ht] at h; exact h.elim
            | cons t' l =>
              cases l with
              | cons => rw [hl, ht] at h; exact h.elim
              | nil =>
                rw [hl, ht] at h
                simp only at h ⊢
                cases e1 : apT P t with
                | none => rw [e1] at h; exact h.elim
                | some q =>
                  cases e2 : elemsOf R (un (evA env x)) with
                  | none => rw [e1, e2] at h; exact h.elim
                  | some y =>
                    rw [e1, e2] at h
                    simp only at h ⊢
                    cases e3 : un (evA env s) <;> rw [e3] at h <;> try exact h.elim
                    rename_i r sz off len
                    simp only at h ⊢
                    cases e4 : getRow R r sz with
                    | none => rw [e4] at h; exact h.elim
                    | some rw_ =>
                      rw [e4] at h
                      simp only at h ⊢
                      obtain ⟨h1, h2, h3, h4, h5, h6, h7, h8⟩ := h
                      exact ⟨h1, h2, h3, h4, h5, h6, h7, h8, trivial, rfl⟩
  · exact h.elim
theorem wpAny_of_P {w0 : World} {S0 : Stab} {al : Bool × Bool} {all : List Oper} {Q : DSt → Prop} {Q' : Exit → Act → World → Prop}
    (hQ : ∀ (s : DSt) a w S γ ρ, RelF w0 S0 n s.f s.B s.R a w S γ ρ → Q s → Q' .normal a w) : ∀ (fuel : Nat) (listed : Array Bool) (s : DSt) (a : Act) (w : World) (S : Nat → Prop) (γ : List Nat) (ρ : List Value),
    RelF w0 S0 n s.f s.B s.R a w S γ ρ → wpAnyP P n al all Q fuel listed s → wpAny P .any all.toArray Q' fuel listed a w
  | 0, _, s, a, w, S, γ, ρ, hr, h => ⟨h.1, hQ _ _ _ _ _ _ hr h.2⟩
  | fuel + 1, listed, s, a, w, S, γ, ρ, hr, h => ⟨fun h0 => hQ _ _ _ _ _ _ hr (h.1 h0), fun i hi => by
    have h1 := h.2 i hi
    unfold qP at h1
    unfold wpOp
    simp only [List.getElem?_toArray]
    cases ho : all[i]? with
    | none => rw [ho] at h1; simp only at h1 ⊢; exact wpAny_of_P hQ fuel _ s a w S γ ρ hr h1
    | some o =>
      rw [ho] at h1
      simp only at h1 ⊢
      obtain ⟨s', hst, hK⟩ := h1
      obtain ⟨f, B, R⟩ := s
      simp only at hr
      -- an operation that writes memory of the call's own: the state behind it
      have wr : ∀ (v : AV) (f2 : List (Nat × AV) → List (Nat × AV)) (kl : AV → AV) (B' : List (List AV)) (R' : List (Option Row)), o.guard = none → dok n o.dst → kl .any = .any → (∀ env s, eget (f2 env) s = kl (eget env s)) →
          (∀ (a : AV) (u : Value) {w w' : World} {S S' : Nat → Prop} {γ γ' : List Nat} {ρ ρ' : List Value}, V w S γ ρ false a u → u = Go.undef → V w' S' γ' ρ' false (kl a) u) →
          (∀ env : List (Nat × AV), (∀ x ∈ o.op.operands.toList, evF f x = evA env x) → astep P ⟨env, B, R⟩ o.op (fun v' st' => v' = v ∧ st' = ⟨f2 env, B', R'⟩)) →
          wpAnyP P n al all Q fuel (listed.setIfInBounds i true) ⟨updO (fun t => kl (f t)) o.dst v, B', R'⟩ →
          (if Region.wanted o (yielded all.toArray a.tmps) = true then o.wp P a w (wpAny P .any all.toArray Q' fuel (listed.setIfInBounds i true)) Q' ∨ o.asks P a w ∧ LetsOut Q' else wpAny P .any all.toArray Q' fuel (listed.setIfInBounds i true) (a.put o.dst undef) w) := by
        intro v f2 kl B' R' hg hd hka hget hund hstep hK
        have hd := dok_spec hd
        have hwt : Region.wanted o (yielded all.toArray a.tmps) = true := by simp [Region.wanted, hg]
        rw [if_pos hwt]
        left
        obtain ⟨L, hL⟩ : ∃ L : List Nat, L = (o.op.operands.toList.filterMap fun | .tmp t => some t | _ => none) ++ List.range n := ⟨_, rfl⟩
        have hev : ∀ x ∈ o.op.operands.toList, evF f x = evA (L.map fun s => (s, f s)) x := fun x hx => by
          cases x <;> try rfl
          rename_i t
          simp only [evF, evA]
          rw [eget_map, if_pos]
          rw [hL]
          exact List.mem_append_left _ (List.mem_filterMap.2 ⟨.tmp t, hx, rfl⟩)
        have hrel : RelAt w0 S0 n ⟨L.map fun s => (s, f s), B, R⟩ a w S γ ρ :=
          ⟨hr.rel.below, hr.rel.s0, hr.rel.sw, hr.rel.heap, hr.rel.size, hr.rel.defs, fun s => by
            simp only [eget_map]
            split
            · exact hr.env s
            · exact .any⟩
        obtain ⟨v', st', ⟨e1, e2⟩, hn⟩ := astep_sound hrel (o := o) (hstep _ hev)
        refine hn _ _ fun u w' S' γ' ρ' hr2 hv => ?_
        rw [e2] at hr2
        rw [e1] at hv
        refine wpAny_of_P hQ fuel _ ⟨_, _, _⟩ _ w' S' γ' ρ' (RelF.put ⟨⟨hr2.below, hr2.s0, hr2.sw, hr2.heap, hr2.size, hr2.defs, fun s => .any⟩, fun s => ?_⟩ hd hv) hK
        have he := hr2.env s
        simp only [hget, eget_map] at he
        by_cases hs : s ∈ L
        · rw [if_pos hs] at he; exact he
        · have hsn : ¬ s < n := fun h => hs (by rw [hL]; exact List.mem_append_right _ (List.mem_range.2 h))
          have hu : a.tmps.getD s Go.undef = Go.undef := by
            have : a.tmps.size ≤ s := by rw [hr.rel.size]; omega
            simp [Array.getD_eq_getD_getElem?, Array.getElem?_eq_none this]
          exact hund _ _ (hr.env s) hu
      have pure_case : ∀ v, stepV P n B R all o f v → wpAnyP P n al all Q fuel (listed.setIfInBounds i true) ⟨updO f o.dst v, B, R⟩ →
          (if Region.wanted o (yielded all.toArray a.tmps) = true then o.wp P a w (wpAny P .any all.toArray Q' fuel (listed.setIfInBounds i true)) Q' ∨ o.asks P a w ∧ LetsOut Q' else wpAny P .any all.toArray Q' fuel (listed.setIfInBounds i true) (a.put o.dst undef) w) := by
        rintro v ⟨hd, hs⟩ hK
        have hd := dok_spec hd
        cases hg : o.guard with
        | none =>
          rw [hg] at hs
          have hw : Region.wanted o (yielded all.toArray a.tmps) = true := by simp [Region.wanted, hg]
          rw [if_pos hw]
          left
          obtain ⟨v', rfl, hn⟩ := apureD_sound hr.rel.heap hr.rel.sw hr.ev hs
          exact hn _ _ fun u w' S' hb hS hS' hv => wpAny_of_P hQ fuel _ ⟨_, _, _⟩ _ w' S' γ ρ ((hr.later hb hS hS').put hd hv) hK
        | some jw =>
          obtain ⟨j, want⟩ := jw
          rw [hg] at hs
          obtain ⟨g, c, x, e1, e2, e3, rfl⟩ := hs
          have hw := wanted_iff hg e1 e2 (hr.env g)
          cases c
          · rw [if_neg (by rw [hw]; simp)]
            exact wpAny_of_P hQ fuel _ ⟨_, _, _⟩ _ w S γ ρ (hr.put hd (.opt (fun h => by cases h) (fun _ => rfl))) hK
          · rw [if_pos hw]
            left
            obtain ⟨v', rfl, hn⟩ := apureD_sound hr.rel.heap hr.rel.sw hr.ev e3
            exact hn _ _ fun u w' S' hb hS hS' hv => wpAny_of_P hQ fuel _ ⟨_, _, _⟩ _ w' S' γ ρ ((hr.later hb hS hS').put hd (.opt (fun _ => hv) (fun h => by cases h))) hK
      rcases hst with ⟨_, _, _, v, _, hv, rfl⟩ | ⟨_, _, hm⟩ | ⟨hg, hd, hp, rfl⟩
      · exact pure_case v hv hK
      · rcases hm with ⟨_, _, v, hv, rfl⟩ | ⟨hg, hd, hw, rfl⟩
        · exact pure_case v hv hK
        · simp only at hw hK
          refine wr _ id id _ _ hg hd rfl (fun _ _ => rfl) (fun a u _ _ _ _ _ _ _ _ h h2 => h.undef h2) (fun env hev => ?_) hK
          have hc : wres P B R (evF f) o.op = wres P B R (evA env) o.op := wres_congr hev
          rw [hc] at hw ⊢
          exact wres_astep hw
      · simp only at hp hK
        refine wr _ (killSt (pres P R (evF f) o.op).1.2.1) (killO (pres P R (evF f) o.op).1.2.1) _ _ hg hd (killO_any _) (fun env s => eget_killSt _ s env) (fun a u _ _ _ _ _ _ _ _ h h2 => ?_) (fun env hev => ?_) hK
        · cases (pres P R (evF f) o.op).1.2.1 with
          | none => exact h.undef h2
          | some r => exact (h.kill r _ (fun _ _ _ h => h)).undef h2
        · have hc : pres P R (evF f) o.op = pres P R (evA env) o.op := pres_congr hev
          rw [hc] at hp ⊢
          exact pres_astep hp⟩
def aopP (P : Program) (n : Nat) (gs : Nat → Option Nat) (al : Bool × Bool) (o : Oper) (st : ASt) (K : ASt → Prop) : Prop :=
  match isW o.op with
  | true => o.guard = none ∧ dok n o.dst ∧ (pres P st.rows (evA st.env) o.op).2 ∧
      K ⟨((⟨killSt (pres P st.rows (evA st.env) o.op).1.2.1 st.env, [], []⟩ : ASt).put o.dst (pres P st.rows (evA st.env) o.op).1.1).env, st.boxes.map (List.map (killO (pres P st.rows (evA st.env) o.op).1.2.1)), (pres P st.rows (evA st.env) o.op).1.2.2⟩
  | false => match memQ o.op with
    | true => o.guard = none ∧ dok n o.dst ∧ norEv (evA st.env) o.op.operands.toList ∧ apure P st true o.op fun v => v.nor = true ∧ K (st.put o.dst v)
    | false => aopM P n gs al o st K
def aopsP (P : Program) (n : Nat) (gs : Nat → Option Nat) (al : Bool × Bool) : List Oper → ASt → (ASt → Prop) → Prop
  | [], st, K => K st
  | o :: os, st, K => aopP P n gs al o st fun st' => aopsP P n gs al os st' K
theorem aopsP_cons {gs : Nat → Option Nat} {al : Bool × Bool} {o : Oper} {os : List Oper} {st : ASt} {K : ASt → Prop} (h : ∀ K' : ASt → Prop, (∀ s, aopsP P n gs al os s K → K' s) → aopP P n gs al o st K') : aopsP P n gs al (o :: os) st K :=
  h _ fun _ h => h
theorem aopsP_nil {gs : Nat → Option Nat} {al : Bool × Bool} {st : ASt} {K : ASt → Prop} (h : K st) : aopsP P n gs al [] st K := h
theorem aopP_step {al : Bool × Bool} {all : List Oper} {o : Oper} {st : ASt} {K : ASt → Prop} (h : aopP P n (gslot all) al o st K) :
    ∃ st' : ASt, K st' ∧ stepP P n al all o ⟨eget st.env, st.boxes, st.rows⟩ ⟨eget st'.env, st'.boxes, st'.rows⟩ := by
  unfold aopP at h
  split at h
  · obtain ⟨h1, h2, h3, h4⟩ := h
    refine ⟨_, h4, .inr (.inr ⟨h1, h2, by simp only [← evA_evF]; exact h3, ?_⟩)⟩
    simp only [← evA_evF, eget_put]
    congr 2
    funext s
    exact eget_killSt _ s _
  · rename_i hw
    split at h
    · rename_i hq
      obtain ⟨h1, h2, h3, h4⟩ := h
      obtain ⟨v, e1, e2, e3⟩ := apureD_iff (.inr (.inl h4))
      refine ⟨_, e3, .inl ⟨hq, h1, by simp only [← evA_evF]; exact h3, v, e2, ⟨h2, by rw [h1]; simp only [← evA_evF]; exact e1⟩, ?_⟩⟩
      rw [eget_put, (put_boxes st o.dst v).1, (put_boxes st o.dst v).2]
    · rename_i hq
      obtain ⟨st', h1, h2⟩ := aopM_step h
      exact ⟨st', h1, .inr (.inl ⟨hq, hw, h2⟩)⟩
theorem aopsP_text {al : Bool × Bool} {all : List Oper} {K : ASt → Prop} : ∀ (l : List Oper) (st : ASt), aopsP P n (gslot all) al l st K →
    wpTextP P n al all (fun s => ∃ st', K st' ∧ s = ⟨eget st'.env, st'.boxes, st'.rows⟩) l ⟨eget st.env, st.boxes, st.rows⟩
  | [], st, h => ⟨st, h, rfl⟩
  | o :: l, st, h => by
    obtain ⟨st', h1, h2⟩ := aopP_step h
    exact ⟨_, h2, aopsP_text l st' h1⟩
theorem closed_none (all : Array Oper) (m : Nat) : Closed all (Array.replicate m false) := by
  intro j o ho hl
  exfalso
  rw [Array.getD_eq_getD_getElem?] at hl
  rcases Nat.lt_or_ge j m with h | h
  · simp [h] at hl
  · simp [h] at hl
theorem AWp.regionP {id : Nat} {l : List Oper} {Q : Exit → ASt → Prop} {st : ASt} (F : List Nat) (al : Bool × Bool) (hm : P.follows .mixedOrders = true) (hB : Region.lexB .any l.toArray = true) (hM : memBP al l.toArray = true)
    (h : aopsP P n (gslot l) al l st fun s => Q .normal (s.prune F)) : AWp P n (.region id l.toArray true) Q st := fun w0 S0 a w ⟨S, γ, ρ, hr⟩ => by
  simp only [Region.lexB, Bool.and_eq_true] at hB
  refine wp_region_any hm ?_
  have hb : Below w.heap.size w { w with drawn := w.drawn + 1 } := ⟨rfl, rfl, rfl, Nat.le_refl _, fun _ _ => rfl⟩
  have hr2 : RelF w0 S0 n (eget st.env) st.boxes st.rows a { w with drawn := w.drawn + 1 } S γ ρ := by
    have := hr.later hb (fun _ h => h) (fun _ h => .inl h)
    exact ⟨⟨this.below, this.s0, this.sw, this.heap, this.size, this.defs, fun s => .any⟩, this.env⟩
  have ht := wpAnyP_lex hM l 0 (Array.replicate l.toArray.size false) ⟨eget st.env, st.boxes, st.rows⟩ (by simp) (closed_none _ _) (fun j hj => absurd hj (Nat.not_lt_zero j)) (by simpa using hB.2) (aopsP_text l st h)
  have hQ : ∀ (s : DSt) a' w' S' γ' ρ', RelF w0 S0 n s.f s.B s.R a' w' S' γ' ρ' → (∃ st' : ASt, Q .normal (st'.prune F) ∧ s = ⟨eget st'.env, st'.boxes, st'.rows⟩) →
      ∃ st' : ASt, Q .normal st' ∧ Rel w0 S0 n st' a' w' := fun s a' w' S' γ' ρ' hf ⟨st', hK, e⟩ => by
    subst e
    have hrel : RelAt w0 S0 n st' a' w' S' γ' ρ' := ⟨hf.rel.below, hf.rel.s0, hf.rel.sw, hf.rel.heap, hf.rel.size, hf.rel.defs, hf.env⟩
    exact ⟨_, hK, Rel.prune ⟨S', γ', ρ', hrel⟩ F⟩
  have := wpAny_of_P (P := P) (Q' := fun e a' w' => ∃ st', Q e st' ∧ Rel w0 S0 n st' a' w') hQ l.length _ _ a _ S γ ρ hr2 ht
  simpa using this
theorem AWp.sregP {id : Nat} {l : List Oper} {y : Code} {Q : Exit → ASt → Prop} {st : ASt} (F : Nat → List Nat) (al : Bool × Bool) (hm : P.follows .mixedOrders = true) (hB : Region.lexB .any l.toArray = true) (hM : memBP al l.toArray = true)
    (h : ∀ (gs : Nat → Option Nat) (K : ASt → Prop), (∀ j, gs j = gslot l j) → (∀ s, AWp P n y Q (s.prune (F id)) → K s) → aopsP P n gs al l st K) : AWp P n (.seq (.region id l.toArray true) y) Q st :=
  AWp.seq (AWp.regionP (F id) al hm hB hM (h (gslot l) (fun s => AWp P n y Q (s.prune (F id))) (fun _ => rfl) fun s h => h))
theorem AWp.regP {id : Nat} {l : List Oper} {Q : Exit → ASt → Prop} {st : ASt} (F : Nat → List Nat) (al : Bool × Bool) (hm : P.follows .mixedOrders = true) (hB : Region.lexB .any l.toArray = true) (hM : memBP al l.toArray = true)
    (h : ∀ (gs : Nat → Option Nat) (K : ASt → Prop), (∀ j, gs j = gslot l j) → (∀ s, Q .normal (s.prune (F id)) → K s) → aopsP P n gs al l st K) : AWp P n (.region id l.toArray true) Q st :=
  AWp.regionP (F id) al hm hB hM (h (gslot l) (fun s => Q .normal (s.prune (F id))) (fun _ => rfl) fun s h => h)
end Go.AL
open Go Go.AL in
attribute [go_sem] aopP pres norEv isW isBs isAp memQ isBx AV.nor norL killSt killO ASt.frzB frzBE AV.frzB frzBL amem
