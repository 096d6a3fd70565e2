/-
  The abstract layer, third part: operations that make or change memory of the call's own. Over whatever program; no program in sight.
-/
import Derived.Test.YtjeehkdepoiegaaGreatAbsB
set_option linter.unusedSimpArgs false
set_option linter.unusedVariables false
set_option linter.constructorNameAsVariable false
namespace Go.AL
open Go.RowKit
set_option linter.unusedSimpArgs false
set_option linter.unusedVariables false
variable {P : Program}
def ASt.put (st : ASt) (dst : Option Nat) (v : AV) : ASt :=
  match dst with
  | some d => { st with env := eput st.env d v }
  | none => st
theorem RelAt.put {w0 : World} {S0 : Stab} {n : Nat} {st : ASt} {a : Act} {w : World} {S : Nat → Prop} {γ : List Nat} {ρ : List Value} (h : RelAt w0 S0 n st a w S γ ρ) {dst : Option Nat}
    (hd : ∀ d, dst = some d → d < n) {v : AV} {u : Value} (hv : V w S γ ρ false v u) : RelAt w0 S0 n (st.put dst v) (a.put dst u) w S γ ρ := by
  cases dst with
  | none => exact h
  | some d =>
    refine ⟨h.below, h.s0, h.sw, h.heap, by simp [Act.put, h.size], h.defs, fun s => ?_⟩
    have hlt : d < a.tmps.size := by rw [h.size]; exact hd d rfl
    simp only [ASt.put, Act.put, eget_eput]
    by_cases hs : d = s
    · subst hs
      rw [if_pos rfl]
      have : (a.tmps.setIfInBounds d u).getD d undef = u := by simp [Array.getD_eq_getD_getElem?, hlt]
      rw [this]; exact hv
    · rw [if_neg hs]
      have : (a.tmps.setIfInBounds d u).getD s undef = a.tmps.getD s undef := by simp [Array.getD_eq_getD_getElem?, Array.getElem?_setIfInBounds_ne hs]
      rw [this]; exact h.env s
section heap
variable {w w' : World} {B : Nat} {S : Nat → Prop} {γ : List Nat} {ρ : List Value} {boxes : List (List AV)} {rows : List (Option Row)}
theorem app_get {α : Type} {l : List α} {x : α} {k : Nat} {g : α} (h : l[k]? = some g) : (l ++ [x])[k]? = some g := by
  rw [List.getElem?_append_left (List.getElem?_eq_some_iff.1 h).1]; exact h
theorem app_cases {α : Type} {l : List α} {x : α} {k : Nat} {g : α} (h : (l ++ [x])[k]? = some g) : l[k]? = some g ∨ (k = l.length ∧ g = x) := by
  by_cases hk : k < l.length
  · rw [List.getElem?_append_left hk] at h; exact .inl h
  · rw [List.getElem?_append_right (by omega)] at h
    have : k - l.length < [x].length := (List.getElem?_eq_some_iff.1 h).1
    simp at this
    have hk' : k = l.length := by omega
    subst hk'
    simp at h
    exact .inr ⟨rfl, h.symm⟩
theorem HR.extendBox (h : HR w B S γ ρ boxes rows) {g : Nat} {us : Array Value} {ty : TypeId} {cs : List AV} (hB : B ≤ g) (hS : ¬ S g) (hh : w.heap[g]? = some (.cells us ty (0, 0)))
    (hl : us.size = cs.length) (hv : ∀ (j : Nat) (c : AV), cs[j]? = some c → ∃ u, us[j]? = some u ∧ u.oneCell' = true ∧ V w S γ ρ false c u)
    (hf : ∀ k : Nat, γ[k]? ≠ some g) (hfr : ∀ (r : Nat) (rw_ : Row) (v : Value), rows[r]? = some (some rw_) → ρ[r]? = some v → v.ownBlock ≠ some g) :
    HR w B S (γ ++ [g]) ρ (boxes ++ [cs]) rows := by
  have mono : ∀ {b : Bool} {a : AV} {u : Value}, V w S γ ρ b a u → V w S (γ ++ [g]) ρ b a u := fun hv =>
    hv.mono (fun p hp x hx => hx) (fun _ h => h) (fun _ _ h => app_get h) (fun _ _ h => h)
  refine ⟨by simp [h.nb], h.nr, fun k cs' g' h1 h2 => ?_, fun r rw_ v h1 h2 => ?_, fun i j g' h1 h2 => ?_, fun k r g' rw_ v h1 h2 h3 => ?_, h.rinj⟩
  · rcases app_cases h1 with h1 | ⟨hk, rfl⟩
    · have hk : k < γ.length := by rw [h.nb]; exact (List.getElem?_eq_some_iff.1 h1).1
      rw [List.getElem?_append_left hk] at h2
      obtain ⟨e1, e2, us', ty', e3, e4, e5⟩ := h.box k cs' g' h1 h2
      exact ⟨e1, e2, us', ty', e3, e4, fun j c hj => let ⟨u, f1, f2, f3⟩ := e5 j c hj; ⟨u, f1, f2, mono f3⟩⟩
    · subst hk
      rw [← h.nb] at h2
      simp at h2; subst h2
      exact ⟨hB, hS, us, ty, hh, hl, fun j c hj => let ⟨u, f1, f2, f3⟩ := hv j c hj; ⟨u, f1, f2, mono f3⟩⟩
  · obtain ⟨e1, e2, e3, cells, e4, e5⟩ := h.row r rw_ v h1 h2
    exact ⟨e1, e2, e3, cells, e4, fun i x j c hi hj => let ⟨u, f1, f2, f3⟩ := e5 i x j c hi hj; ⟨u, f1, f2, mono f3⟩⟩
  · rcases app_cases h1 with k1 | ⟨hk, e1⟩ <;> rcases app_cases h2 with k2 | ⟨hk', e2⟩
    · exact h.inj i j g' k1 k2
    · exact absurd (e2 ▸ k1) (hf i)
    · exact absurd (e1 ▸ k2) (hf j)
    · omega
  · rcases app_cases h1 with h1 | ⟨hk, rfl⟩
    · exact h.sep k r g' rw_ v h1 h2 h3
    · exact hfr r rw_ v h2 h3
theorem HR.extendRow (h : HR w B S γ ρ boxes rows) {rw_ : Row} {v : Value} (hpos : 0 < rw_.sz) (hlen : ∀ x ∈ rw_.elems, x.length = rw_.sz) (hS : ∀ g, v.ownBlock = some g → ¬ S g) {cells : List Value}
    (hown : w.ownsRow B rw_.ty rw_.sz v rw_.elems.length cells)
    (hv : ∀ (i : Nat) (x : List AV) (j : Nat) (c : AV), rw_.elems[i]? = some x → x[j]? = some c → ∃ u, cells[i * rw_.sz + j]? = some u ∧ u.oneCell' = true ∧ V w S γ ρ true c u)
    (hf : ∀ (k g : Nat), v.ownBlock = some g → γ[k]? ≠ some g) (hfr : ∀ (r : Nat) (rw' : Row) (v' : Value) (g : Nat), rows[r]? = some (some rw') → ρ[r]? = some v' → v'.ownBlock = some g → v.ownBlock ≠ some g) :
    HR w B S γ (ρ ++ [v]) boxes (rows ++ [some rw_]) := by
  have mono : ∀ {b : Bool} {a : AV} {u : Value}, V w S γ ρ b a u → V w S γ (ρ ++ [v]) b a u := fun hv =>
    hv.mono (fun p hp x hx => hx) (fun _ h => h) (fun _ _ h => h) (fun _ _ h => app_get h)
  have look : ∀ {r : Nat} {rw' : Row} {v' : Value}, (rows ++ [some rw_])[r]? = some (some rw') → (ρ ++ [v])[r]? = some v' → (rows[r]? = some (some rw') ∧ ρ[r]? = some v') ∨ (r = rows.length ∧ rw' = rw_ ∧ v' = v) := by
    intro r rw' v' h1 h2
    rcases app_cases h1 with h1 | ⟨hk, e⟩
    · have hk : r < ρ.length := by rw [h.nr]; exact (List.getElem?_eq_some_iff.1 h1).1
      rw [List.getElem?_append_left hk] at h2
      exact .inl ⟨h1, h2⟩
    · subst hk
      rw [← h.nr] at h2
      simp at h2
      exact .inr ⟨rfl, by injection e, h2.symm⟩
  refine ⟨h.nb, by simp [h.nr], fun k cs' g' h1 h2 => ?_, fun r rw' v' h1 h2 => ?_, h.inj, fun k r g' rw' v' h1 h2 h3 => ?_, fun r r' rw' rw'' v1 v2 g h1 h2 h3 h4 h5 h6 => ?_⟩
  · obtain ⟨e1, e2, us', ty', e3, e4, e5⟩ := h.box k cs' g' h1 h2
    exact ⟨e1, e2, us', ty', e3, e4, fun j c hj => let ⟨u, f1, f2, f3⟩ := e5 j c hj; ⟨u, f1, f2, mono f3⟩⟩
  · rcases look h1 h2 with ⟨h1, h2⟩ | ⟨rfl, rfl, rfl⟩
    · obtain ⟨e1, e2, e3, cells, e4, e5⟩ := h.row r rw' v' h1 h2
      exact ⟨e1, e2, e3, cells, e4, fun i x j c hi hj => let ⟨u, f1, f2, f3⟩ := e5 i x j c hi hj; ⟨u, f1, f2, mono f3⟩⟩
    · exact ⟨hpos, hlen, hS, cells, hown, fun i x j c hi hj => let ⟨u, f1, f2, f3⟩ := hv i x j c hi hj; ⟨u, f1, f2, mono f3⟩⟩
  · rcases look h2 h3 with ⟨h2, h3⟩ | ⟨rfl, rfl, rfl⟩
    · exact h.sep k r g' rw' v' h1 h2 h3
    · exact fun e => hf k g' e h1
  · rcases look h1 h3 with ⟨k1, k3⟩ | ⟨e1, p1, q1⟩ <;> rcases look h2 h4 with ⟨k2, k4⟩ | ⟨e2, p2, q2⟩
    · exact h.rinj r r' rw' rw'' v1 v2 g k1 k2 k3 k4 h5 h6
    · exact absurd (q2 ▸ h6) (hfr r rw' v1 g k1 k3 h5)
    · exact absurd (q1 ▸ h5) (hfr r' rw'' v2 g k2 k4 h6)
    · omega
theorem HR.setBox (h : HR w B S γ ρ boxes rows) {b g : Nat} {cs cs' : List AV} {us us' : Array Value} {ty : TypeId} (hb : boxes[b]? = some cs) (hg : γ[b]? = some g)
    (hh : w.heap[g]? = some (.cells us ty (0, 0))) (hl : us'.size = cs'.length)
    (hv : ∀ (j : Nat) (c : AV), cs'[j]? = some c → ∃ u, us'[j]? = some u ∧ u.oneCell' = true ∧ V w S γ ρ false c u) : HR (w.setRow g us') B S γ ρ (boxes.set b cs') rows := by
  obtain ⟨hBg, hSg, _⟩ := h.box b cs g hb hg
  have mono : ∀ {b : Bool} {a : AV} {u : Value}, V w S γ ρ b a u → V (w.setRow g us') S γ ρ b a u := fun hv =>
    hv.mono (fun p hp x hx => by
      have hne : p.block ≠ g := fun e => hSg (e ▸ hp)
      rw [cell_setRow_other w g us' p hne]; exact hx) (fun _ h => h) (fun _ _ h => h) (fun _ _ h => h)
  refine ⟨by simp [h.nb], h.nr, fun k cs1 g' h1 h2 => ?_, fun r rw_ v h1 h2 => ?_, h.inj, h.sep, h.rinj⟩
  · by_cases hk : k = b
    · subst hk
      rw [hg] at h2; cases h2
      rw [List.getElem?_set_self (List.getElem?_eq_some_iff.1 hb).1] at h1
      cases h1
      exact ⟨hBg, hSg, us', ty, setRow_heap w g us us' ty (0, 0) hh, hl, fun j c hj => let ⟨u, f1, f2, f3⟩ := hv j c hj; ⟨u, f1, f2, mono f3⟩⟩
    · rw [List.getElem?_set_ne (fun e => hk e.symm)] at h1
      obtain ⟨e1, e2, us1, ty', e3, e4, e5⟩ := h.box k cs1 g' h1 h2
      have hne : g' ≠ g := fun e => hk (h.inj k b g' h2 (e ▸ hg))
      exact ⟨e1, e2, us1, ty', by rw [setRow_other w g g' us' hne]; exact e3, e4, fun j c hj => let ⟨u, f1, f2, f3⟩ := e5 j c hj; ⟨u, f1, f2, mono f3⟩⟩
  · obtain ⟨e1, e2, e3, cells, e4, e5⟩ := h.row r rw_ v h1 h2
    refine ⟨e1, e2, e3, cells, ⟨e4.1, ?_⟩, fun i x j c hi hj => let ⟨u, f1, f2, f3⟩ := e5 i x j c hi hj; ⟨u, f1, f2, mono f3⟩⟩
    rcases e4.2 with hn | ⟨g1, cap, cur, hv1, hB1, hh1, rest⟩
    · exact .inl hn
    · have hne : g1 ≠ g := fun e => h.sep b r g rw_ v hg h1 h2 (by rw [hv1, ← e]; rfl)
      exact .inr ⟨g1, cap, cur, hv1, hB1, by rw [setRow_other w g g1 us' hne]; exact hh1, rest⟩
theorem HR.setRow (h : HR w B S γ ρ boxes rows) {r : Nat} {rw_ rw' : Row} {v v' : Value} (hr : rows[r]? = some (some rw_)) (hρ : ρ[r]? = some v) (hSw : ∀ g, S g → g < w.heap.size)
    (hgrow : w.grownBy w' v.ownBlock) (hob : v'.ownBlock = v.ownBlock ∨ v'.ownBlock = some w.heap.size) (hpos : 0 < rw'.sz) (hlen : ∀ x ∈ rw'.elems, x.length = rw'.sz) {cells : List Value}
    (hown : w'.ownsRow B rw'.ty rw'.sz v' rw'.elems.length cells)
    (hv : ∀ (i : Nat) (x : List AV) (j : Nat) (c : AV), rw'.elems[i]? = some x → x[j]? = some c → ∃ u, cells[i * rw'.sz + j]? = some u ∧ u.oneCell' = true ∧ V w S γ ρ true c u)
    (boxes' : List (List AV)) (hbl : boxes'.length = boxes.length)
    (hbx : ∀ (k : Nat) (cs' : List AV), boxes'[k]? = some cs' → ∃ cs, boxes[k]? = some cs ∧ cs'.length = cs.length ∧ ∀ (j : Nat) (c' c : AV) (u : Value), cs'[j]? = some c' → cs[j]? = some c → V w S γ ρ false c u → V w S γ (ρ.set r v') false c' u) :
    HR w' B S γ (ρ.set r v') boxes' (rows.set r (some rw')) := by
  obtain ⟨_, _, hnS, cells0, hown0, _⟩ := h.row r rw_ v hr hρ
  have hrl : r < rows.length := (List.getElem?_eq_some_iff.1 hr).1
  have hstab : ∀ p : Addr, S p.block → ∀ x, w.cell? p = some x → w'.cell? p = some x := fun p hp x hx => by
    rw [World.cell?_of_block (hgrow.block p.block (hSw _ hp) (fun e => hnS p.block e.symm hp))]; exact hx
  have mono0 : ∀ {ρ1 : List Value} {b : Bool} {a : AV} {u : Value}, V w S γ ρ1 b a u → V w' S γ ρ1 b a u := fun hv => hv.mono hstab (fun _ h => h) (fun _ _ h => h) (fun _ _ h => h)
  have look : ∀ {r1 : Nat} {rw1 : Row} {v1 : Value}, (rows.set r (some rw'))[r1]? = some (some rw1) → (ρ.set r v')[r1]? = some v1 → (r1 ≠ r ∧ rows[r1]? = some (some rw1) ∧ ρ[r1]? = some v1) ∨ (r1 = r ∧ rw1 = rw' ∧ v1 = v') := by
    intro r1 rw1 v1 h1 h2
    by_cases hk : r1 = r
    · subst hk
      rw [List.getElem?_set_self hrl] at h1
      rw [List.getElem?_set_self (by rw [h.nr]; exact hrl)] at h2
      exact .inr ⟨rfl, by injection h1 with h1; injection h1 with h1; exact h1.symm, by injection h2 with h2; exact h2.symm⟩
    · rw [List.getElem?_set_ne (fun e => hk e.symm)] at h1 h2
      exact .inl ⟨hk, h1, h2⟩
  have hnew : ∀ g, v'.ownBlock = some g → ¬ S g := fun g hg hs => by
    rcases hob with e | e
    · exact hnS g (e ▸ hg) hs
    · rw [hg] at e; cases e; have := hSw _ hs; omega
  refine ⟨by rw [hbl]; exact h.nb, by simp [h.nr], fun k cs' g' h1 h2 => ?_, fun r1 rw1 v1 h1 h2 => ?_, h.inj, fun k r1 g' rw1 v1 h1 h2 h3 => ?_, fun r1 r2 rw1 rw2 v1 v2 g h1 h2 h3 h4 h5 h6 => ?_⟩
  · obtain ⟨cs, hcs, hl, hc⟩ := hbx k cs' h1
    obtain ⟨e1, e2, us', ty', e3, e4, e5⟩ := h.box k cs g' hcs h2
    have hlt : g' < w.heap.size := (Array.getElem?_eq_some_iff.1 e3).1
    refine ⟨e1, e2, us', ty', by rw [hgrow.block g' hlt (fun e => h.sep k r g' rw_ v h2 hr hρ e.symm)]; exact e3, by rw [e4, hl], fun j c' hj => ?_⟩
    obtain ⟨c, hcj⟩ : ∃ c, cs[j]? = some c := ⟨_, List.getElem?_eq_getElem (by rw [← hl]; exact (List.getElem?_eq_some_iff.1 hj).1)⟩
    obtain ⟨u, f1, f2, f3⟩ := e5 j c hcj
    exact ⟨u, f1, f2, mono0 (hc j c' c u hj hcj f3)⟩
  · rcases look h1 h2 with ⟨hne, h1, h2⟩ | ⟨rfl, rfl, rfl⟩
    · obtain ⟨e1, e2, e3, cells1, e4, e5⟩ := h.row r1 rw1 v1 h1 h2
      refine ⟨e1, e2, e3, cells1, ⟨e4.1, ?_⟩, fun i x j c hi hj => let ⟨u, f1, f2, f3⟩ := e5 i x j c hi hj; ⟨u, f1, f2, mono0 (f3.closed true)⟩⟩
      rcases e4.2 with hn | ⟨g1, cap, cur, hv1, hB1, hh1, rest⟩
      · exact .inl hn
      · refine .inr ⟨g1, cap, cur, hv1, hB1, ?_, rest⟩
        rw [hgrow.block g1 (Array.getElem?_eq_some_iff.1 hh1).1 (fun e => hne (h.rinj r1 r rw1 rw_ v1 v g1 h1 hr h2 hρ (by rw [hv1]; rfl) e.symm))]
        exact hh1
    · exact ⟨hpos, hlen, hnew, cells, hown, fun i x j c hi hj => let ⟨u, f1, f2, f3⟩ := hv i x j c hi hj; ⟨u, f1, f2, mono0 (f3.closed true)⟩⟩
  · rcases look h2 h3 with ⟨hne, h2, h3⟩ | ⟨rfl, rfl, rfl⟩
    · exact h.sep k r1 g' rw1 v1 h1 h2 h3
    · intro e
      rcases hob with e2 | e2
      · exact h.sep k r1 g' rw_ v h1 hr hρ (e2 ▸ e)
      · rw [e] at e2; cases e2
        obtain ⟨cs, hcs⟩ : ∃ cs, boxes[k]? = some cs := ⟨_, List.getElem?_eq_getElem (by rw [← h.nb]; exact (List.getElem?_eq_some_iff.1 h1).1)⟩
        obtain ⟨_, _, us', ty', e3, _⟩ := h.box k cs _ hcs h1
        have := (Array.getElem?_eq_some_iff.1 e3).1; omega
  · have fresh : ∀ (r3 : Nat) (rw3 : Row) (v3 : Value), rows[r3]? = some (some rw3) → ρ[r3]? = some v3 → v3.ownBlock ≠ some w.heap.size := by
      intro r3 rw3 v3 h1 h2 h3
      obtain ⟨_, _, _, cells1, e4, _⟩ := h.row r3 rw3 v3 h1 h2
      have := (e4.lt _ h3).2; omega
    rcases look h1 h3 with ⟨hne, k1, k3⟩ | ⟨e1, p1, q1⟩ <;> rcases look h2 h4 with ⟨hne2, k2, k4⟩ | ⟨e2, p2, q2⟩
    · exact h.rinj r1 r2 rw1 rw2 v1 v2 g k1 k2 k3 k4 h5 h6
    · rw [q2] at h6
      rcases hob with e | e
      · exact absurd (h.rinj r1 r rw1 rw_ v1 v g k1 hr k3 hρ h5 (e ▸ h6)) hne
      · rw [h6] at e; cases e; exact absurd h5 (fresh r1 rw1 v1 k1 k3)
    · rw [q1] at h5
      rcases hob with e | e
      · exact absurd (h.rinj r2 r rw2 rw_ v2 v g k2 hr k4 hρ h6 (e ▸ h5)) hne2
      · rw [h5] at e; cases e; exact absurd h6 (fresh r2 rw2 v2 k2 k4)
    · omega
end heap
end Go.AL
namespace Go.AL
open Go.RowKit
set_option linter.unusedSimpArgs false
set_option linter.unusedVariables false
variable {P : Program}
/-! ### freezing: rows that will not be written again become stable -/
def keepR : List Nat → Nat → Bool
  | [], _ => false
  | k :: ks, r => if k = r then true else keepR ks r
mutual
def AV.frz (keep : List Nat) (rows : List (Option Row)) : AV → AV
  | .own r sz off len => if keepR keep r = true then .own r sz off len else match getRow rows r sz with
    | some rw_ => .ro sz ((rw_.elems.drop off).take len)
    | none => .any
  | .rp r sz i f => if keepR keep r = true then .rp r sz i f else .any
  | .tup vs => .tup (frzL keep rows vs)
  | .agg vs => .agg (frzL keep rows vs)
  | .fn g vs => .fn g (frzL keep rows vs)
  | .opt p v => .opt p (AV.frz keep rows v)
  | .bp b off => .bp b off
  | .lit v => .lit v
  | .any => .any
  | .ro sz xs => .ro sz xs
  | .rop cs => .rop cs
def frzL (keep : List Nat) (rows : List (Option Row)) : List AV → List AV
  | [] => []
  | v :: vs => AV.frz keep rows v :: frzL keep rows vs
end
theorem frzL_eq (keep : List Nat) (rows : List (Option Row)) : ∀ vs, frzL keep rows vs = vs.map (AV.frz keep rows)
  | [] => by simp [frzL]
  | v :: vs => by simp [frzL, frzL_eq keep rows vs]
def frzRows (keep : List Nat) : Nat → List (Option Row) → List (Option Row)
  | _, [] => []
  | k, r :: rs => (if keepR keep k = true then r else none) :: frzRows keep (k + 1) rs
def frzE (keep : List Nat) (rows : List (Option Row)) : List (Nat × AV) → List (Nat × AV)
  | [] => []
  | (k, v) :: t => (k, AV.frz keep rows v) :: frzE keep rows t
def ASt.freeze (keep : List Nat) (st : ASt) : ASt := ⟨frzE keep st.rows st.env, st.boxes.map (frzL keep st.rows), frzRows keep 0 st.rows⟩
theorem frzRows_length (keep : List Nat) : ∀ (k : Nat) (rows : List (Option Row)), (frzRows keep k rows).length = rows.length
  | _, [] => rfl
  | k, r :: rs => by simp [frzRows, frzRows_length keep (k + 1) rs]
theorem frzRows_get (keep : List Nat) : ∀ (k : Nat) (rows : List (Option Row)) (r : Nat) (rw_ : Row), (frzRows keep k rows)[r]? = some (some rw_) → rows[r]? = some (some rw_) ∧ keepR keep (k + r) = true
  | _, [], r, rw_, h => by simp [frzRows] at h
  | k, x :: rs, r, rw_, h => by
    cases r with
    | zero =>
      simp only [frzRows, List.getElem?_cons_zero, Option.some.injEq] at h
      split at h
      · rename_i hk; exact ⟨by simp [h], hk⟩
      · cases h
    | succ r =>
      have := frzRows_get keep (k + 1) rs r rw_ (by simpa [frzRows] using h)
      exact ⟨by simpa using this.1, by rw [show k + (r + 1) = k + 1 + r by omega]; exact this.2⟩
def frzBlk (keep : List Nat) (rows : List (Option Row)) (ρ : List Value) (g : Nat) : Prop := ∃ (r : Nat) (rw_ : Row) (v : Value), keepR keep r ≠ true ∧ rows[r]? = some (some rw_) ∧ ρ[r]? = some v ∧ v.ownBlock = some g
theorem V.frz {w : World} {B : Nat} {S : Nat → Prop} {γ : List Nat} {ρ : List Value} {boxes : List (List AV)} {rows : List (Option Row)} (hr : HR w B S γ ρ boxes rows) (keep : List Nat) {b : Bool} {a : AV} {u : Value}
    (h : V w S γ ρ b a u) : V w (fun g => S g ∨ frzBlk keep rows ρ g) γ ρ b (a.frz keep rows) u := by
  have up : ∀ {b0 : Bool} {x : AV} {y : Value}, V w S γ ρ b0 x y → V w (fun g => S g ∨ frzBlk keep rows ρ g) γ ρ b0 x y := fun hv => hv.mono (fun p _ x hx => hx) (fun g hg => .inl hg) (fun _ _ h => h) (fun _ _ h => h)
  induction h with
  | any => simp only [AV.frz]; exact .any
  | lit => simp only [AV.frz]; exact .lit
  | opt _ h' ih => simp only [AV.frz]; exact .opt ih h'
  | agg hl _ ih =>
    simp only [AV.frz, frzL_eq]
    refine .agg (by simpa using hl) fun i c u h1 h2 => ?_
    rw [List.getElem?_map] at h1
    obtain ⟨c0, hc, rfl⟩ := Option.map_eq_some_iff.1 h1
    exact ih i c0 u hc h2
  | tup hl _ ih =>
    simp only [AV.frz, frzL_eq]
    refine .tup (by simpa using hl) fun i c u h1 h2 => ?_
    rw [List.getElem?_map] at h1
    obtain ⟨c0, hc, rfl⟩ := Option.map_eq_some_iff.1 h1
    exact ih i c0 u hc h2
  | fn hl _ ih =>
    simp only [AV.frz, frzL_eq]
    refine .fn (by simpa using hl) fun i c u h1 h2 => ?_
    rw [List.getElem?_map] at h1
    obtain ⟨c0, hc, rfl⟩ := Option.map_eq_some_iff.1 h1
    exact ih i c0 u hc h2
  | ro U hn hc hm hz hA hv _ =>
    simp only [AV.frz]
    refine .ro U hn hc hm hz (fun hne => ?_) fun i r j x h1 h2 => up (hv i r j x h1 h2)
    obtain ⟨ad, e, hs, hcell⟩ := hA hne
    exact ⟨ad, e, .inl hs, hcell⟩
  | rop U hs hcell hv _ =>
    simp only [AV.frz]
    exact .rop U (.inl hs) hcell fun j x h1 => up (hv j x h1)
  | rp h =>
    simp only [AV.frz]
    split
    · exact .rp h
    · exact .any
  | bp h => simp only [AV.frz]; exact .bp h
  | own hρ h0 hlen h1 hm hA =>
    rename_i r sz off len A c A0 n0 c0
    simp only [AV.frz]
    split
    · exact .own hρ h0 hlen h1 hm hA
    · rename_i hk
      cases hg : getRow rows r sz with
      | none => exact .any
      | some rw_ =>
        obtain ⟨hrow, rfl⟩ := getRow_spec hg
        obtain ⟨hpos, hlenz, _, cells, hown, hc⟩ := hr.row r rw_ _ hrow hρ
        have hn0 : n0 = rw_.elems.length := by
          rcases hown.2 with ⟨e, hz0⟩ | ⟨g, cap, cur, e, _⟩
          · injection e with _ e2 _; omega
          · injection e with _ e2 _
        have hlen' : ((rw_.elems.drop off).take len).length = len := by simp; omega
        refine V.ro (fun i j => cells.getD ((off + i) * rw_.sz + j) undef) hlen' hlen hm (fun x hx => hlenz x (List.mem_of_mem_drop (List.mem_of_mem_take hx))) (fun hne => ?_) (fun i x j y hi hj => ?_)
        · have hl0 : 0 < len := by
            rcases Nat.eq_zero_or_pos len with h | h
            · subst h; simp at hne
            · exact h
          obtain ⟨g, rfl, rfl⟩ := hA hl0
          refine ⟨_, rfl, .inr ⟨r, rw_, _, hk, hrow, hρ, rfl⟩, fun i x j y hi hj => ?_⟩
          rw [List.getElem?_take] at hi
          split at hi
          · rw [List.getElem?_drop] at hi
            obtain ⟨z, h2, h1c, _⟩ := hc _ x j y hi hj
            rw [addr_add]
            have := own_cell hown h2
            rw [List.getD_eq_getElem?_getD, h2]
            rw [show off * rw_.sz + (i * rw_.sz + j) = (off + i) * rw_.sz + j by rw [Nat.add_mul]; omega]
            exact ⟨this, h1c⟩
          · cases hi
        · rw [List.getElem?_take] at hi
          split at hi
          · rw [List.getElem?_drop] at hi
            obtain ⟨z, h2, _, h3⟩ := hc _ x j y hi hj
            rw [List.getD_eq_getElem?_getD, h2]
            exact up h3
          · cases hi
theorem HR.frz {w : World} {B : Nat} {S : Nat → Prop} {γ : List Nat} {ρ : List Value} {boxes : List (List AV)} {rows : List (Option Row)} (h : HR w B S γ ρ boxes rows) (keep : List Nat) :
    HR w B (fun g => S g ∨ frzBlk keep rows ρ g) γ ρ (boxes.map (frzL keep rows)) (frzRows keep 0 rows) := by
  have get : ∀ {r : Nat} {rw_ : Row}, (frzRows keep 0 rows)[r]? = some (some rw_) → rows[r]? = some (some rw_) ∧ keepR keep r = true := fun hr => by
    have := frzRows_get keep 0 rows _ _ hr
    rw [Nat.zero_add] at this; exact this
  refine ⟨by simp [h.nb], by rw [frzRows_length]; exact h.nr, fun k cs g h1 h2 => ?_, fun r rw_ v h1 h2 => ?_, h.inj, fun k r g rw_ v h1 h2 h3 => h.sep k r g rw_ v h1 (get h2).1 h3, fun r r' rw_ rw_' v v' g h1 h2 h3 h4 h5 h6 => h.rinj r r' rw_ rw_' v v' g (get h1).1 (get h2).1 h3 h4 h5 h6⟩
  · rw [List.getElem?_map] at h1
    obtain ⟨cs0, hcs, rfl⟩ := Option.map_eq_some_iff.1 h1
    obtain ⟨e1, e2, us, ty, e3, e4, e5⟩ := h.box k cs0 g hcs h2
    refine ⟨e1, fun hs => ?_, us, ty, e3, by simp [frzL_eq, e4], fun j c hj => ?_⟩
    · rcases hs with hs | ⟨r, rw_, v, _, f2, f3, f4⟩
      · exact e2 hs
      · exact h.sep k r g rw_ v h2 f2 f3 f4
    · rw [frzL_eq, List.getElem?_map] at hj
      obtain ⟨c0, hc0, rfl⟩ := Option.map_eq_some_iff.1 hj
      obtain ⟨u, f1, f2, f3⟩ := e5 j c0 hc0
      exact ⟨u, f1, f2, f3.frz h keep⟩
  · obtain ⟨h1, hk⟩ := get h1
    obtain ⟨e1, e2, e3, cells, e4, e5⟩ := h.row r rw_ v h1 h2
    refine ⟨e1, e2, fun g hg hs => ?_, cells, e4, fun i x j c hi hj => ?_⟩
    · rcases hs with hs | ⟨r', rw', v', f1, f2, f3, f4⟩
      · exact e3 g hg hs
      · have := h.rinj r r' rw_ rw' v v' g h1 f2 h2 f3 hg f4
        subst this
        exact f1 hk
    · obtain ⟨u, f1, f2, f3⟩ := e5 i x j c hi hj
      exact ⟨u, f1, f2, f3.mono (fun p _ x hx => hx) (fun _ h => .inl h) (fun _ _ h => h) (fun _ _ h => h)⟩
theorem eget_frz (keep : List Nat) (rows : List (Option Row)) (s : Nat) : ∀ env, eget (frzE keep rows env) s = (eget env s).frz keep rows
  | [] => by simp [frzE, eget, AV.frz]
  | (k, v) :: env => by
    simp only [frzE, eget]
    split
    · rfl
    · exact eget_frz keep rows s env
theorem Rel.freeze {w0 : World} {S0 : Stab} {n : Nat} {st : ASt} {a : Act} {w : World} (h : Rel w0 S0 n st a w) (keep : List Nat) : Rel w0 S0 n (st.freeze keep) a w := by
  obtain ⟨S, γ, ρ, h⟩ := h
  have hlk : ∀ k, KeepL k w S → KeepL k w (fun g => S g ∨ frzBlk keep st.rows ρ g) := fun k hk => hk.less fun b hs => by
    rcases hs with hs | ⟨r, rw_, v, _, f2, f3, f4⟩
    · exact .inl hs
    · obtain ⟨_, _, _, cells, e4, _⟩ := h.heap.row r rw_ v f2 f3
      exact .inr (own_cells_at e4 f4)
  refine ⟨_, γ, ρ, h.below, ⟨fun b hs => ?_, hlk _ h.s0.2⟩, fun b hs => ?_, h.heap.frz keep, h.size, h.defs.map hlk, fun s => ?_⟩
  · rcases hs with hs | ⟨r, rw_, v, _, f2, f3, f4⟩
    · exact h.s0.1 b hs
    · obtain ⟨_, _, _, cells, e4, _⟩ := h.heap.row r rw_ v f2 f3
      exact .inr (e4.lt b f4).1
  · rcases hs with hs | ⟨r, rw_, v, _, f2, f3, f4⟩
    · exact h.sw b hs
    · obtain ⟨_, _, _, cells, e4, _⟩ := h.heap.row r rw_ v f2 f3
      exact (e4.lt b f4).2
  · show V w _ γ ρ false (eget (frzE keep st.rows st.env) s) _
    rw [eget_frz]
    exact (h.env s).frz h.heap keep
theorem HR.moreS {w : World} {B : Nat} {S : Nat → Prop} {γ : List Nat} {ρ : List Value} {boxes : List (List AV)} {rows : List (Option Row)} (h : HR w B S γ ρ boxes rows) (T : Nat → Prop)
    (hb : ∀ (k g : Nat), γ[k]? = some g → ¬ T g) (hr : ∀ (r : Nat) (rw_ : Row) (v : Value) (g : Nat), rows[r]? = some (some rw_) → ρ[r]? = some v → v.ownBlock = some g → ¬ T g) : HR w B (fun g => S g ∨ T g) γ ρ boxes rows := by
  have mono : ∀ {b : Bool} {a : AV} {u : Value}, V w S γ ρ b a u → V w (fun g => S g ∨ T g) γ ρ b a u := fun hv => hv.mono (fun p _ x hx => hx) (fun _ h => .inl h) (fun _ _ h => h) (fun _ _ h => h)
  refine ⟨h.nb, h.nr, fun k cs g h1 h2 => ?_, fun r rw_ v h1 h2 => ?_, h.inj, h.sep, h.rinj⟩
  · obtain ⟨e1, e2, us, ty, e3, e4, e5⟩ := h.box k cs g h1 h2
    exact ⟨e1, fun hs => hs.elim e2 (hb k g h2), us, ty, e3, e4, fun j c hj => let ⟨u, f1, f2, f3⟩ := e5 j c hj; ⟨u, f1, f2, mono f3⟩⟩
  · obtain ⟨e1, e2, e3, cells, e4, e5⟩ := h.row r rw_ v h1 h2
    exact ⟨e1, e2, fun g hg hs => hs.elim (e3 g hg) (hr r rw_ v g h1 h2 hg), cells, e4, fun i x j c hi hj => let ⟨u, f1, f2, f3⟩ := e5 i x j c hi hj; ⟨u, f1, f2, mono f3⟩⟩
/-! ### contracts of calls whose results are the caller's own -/
def ACallN (P : Program) (f : FuncId) (args : List AV) (r : AV) (news : List (Option Row)) : Prop :=
  Callable P f ∧ ∀ (w : World) (S : Nat → Prop) (us : List Value), (∀ b, S b → b < w.heap.size) → us.length = args.length →
    (∀ (i : Nat) (a : AV) (u : Value), args[i]? = some a → us[i]? = some u → V w S [] [] true a u) →
    Calls P f us.toArray w fun e w' => ∃ u S' ρ', e = .returned u ∧ Below w.heap.size w w' ∧ (∀ g, S g → S' g) ∧ (∀ g, S' g → S g ∨ (w.heap.size ≤ g ∧ g < w'.heap.size)) ∧
      HR w' w.heap.size S' [] ρ' [] news ∧ V w' S' [] ρ' false r u
def ACallX (P : Program) (f : FuncId) (args : List AV) (r : AV) : Prop :=
  Callable P f ∧ ∀ (w : World) (S : Nat → Prop) (γ : List Nat) (ρ : List Value) (us : List Value), (∀ b, S b → b < w.heap.size) → us.length = args.length →
    (∀ (i : Nat) (a : AV) (u : Value), args[i]? = some a → us[i]? = some u → V w S γ ρ false a u) →
    Calls P f us.toArray w fun e w' => ∃ u, e = .returned u ∧ Below w.heap.size w w' ∧ V w' S γ ρ false r u
mutual
def AV.shift (k : Nat) : AV → AV
  | .own r sz off len => .own (r + k) sz off len
  | .rp r sz i f => .rp (r + k) sz i f
  | .tup vs => .tup (shiftL k vs)
  | .agg vs => .agg (shiftL k vs)
  | .fn g vs => .fn g (shiftL k vs)
  | .opt p v => .opt p (AV.shift k v)
  | .bp _ _ => .any
  | .lit v => .lit v
  | .any => .any
  | .ro sz xs => .ro sz xs
  | .rop cs => .rop cs
def shiftL (k : Nat) : List AV → List AV
  | [] => []
  | v :: vs => AV.shift k v :: shiftL k vs
end
theorem shiftL_eq (k : Nat) : ∀ vs, shiftL k vs = vs.map (AV.shift k)
  | [] => by simp [shiftL]
  | v :: vs => by simp [shiftL, shiftL_eq k vs]
theorem V.shift {w : World} {S : Nat → Prop} {γ γ' : List Nat} {ρ ρ' : List Value} {b : Bool} {a : AV} {u : Value} (h : V w S γ' ρ' b a u) : V w S γ (ρ ++ ρ') b (a.shift ρ.length) u := by
  have up : ∀ {α : Type} {l l' : List α} {k : Nat} {x : α}, l'[k]? = some x → (l ++ l')[k + l.length]? = some x := fun hx => by
    rw [List.getElem?_append_right (by omega)]; simpa using hx
  induction h with
  | any => simp only [AV.shift]; exact .any
  | lit => simp only [AV.shift]; exact .lit
  | opt _ h' ih => simp only [AV.shift]; exact .opt ih h'
  | agg hl _ ih =>
    simp only [AV.shift, shiftL_eq]
    refine .agg (by simpa using hl) fun i c u h1 h2 => ?_
    rw [List.getElem?_map] at h1
    obtain ⟨c0, hc, rfl⟩ := Option.map_eq_some_iff.1 h1
    exact ih i c0 u hc h2
  | tup hl _ ih =>
    simp only [AV.shift, shiftL_eq]
    refine .tup (by simpa using hl) fun i c u h1 h2 => ?_
    rw [List.getElem?_map] at h1
    obtain ⟨c0, hc, rfl⟩ := Option.map_eq_some_iff.1 h1
    exact ih i c0 u hc h2
  | fn hl _ ih =>
    simp only [AV.shift, shiftL_eq]
    refine .fn (by simpa using hl) fun i c u h1 h2 => ?_
    rw [List.getElem?_map] at h1
    obtain ⟨c0, hc, rfl⟩ := Option.map_eq_some_iff.1 h1
    exact ih i c0 u hc h2
  | ro U hn hc hm hz hA hv _ => simp only [AV.shift]; exact .ro U hn hc hm hz hA fun i r j x h1 h2 => (hv i r j x h1 h2).closed true
  | rop U hs hcell hv _ => simp only [AV.shift]; exact .rop U hs hcell fun j x h1 => (hv j x h1).closed true
  | rp h => simp only [AV.shift]; exact .rp (up h)
  | bp h => simp only [AV.shift]; exact .any
  | own hρ h0 hlen h1 hm hA => simp only [AV.shift]; exact .own (up hρ) h0 hlen h1 hm hA
theorem ownsRow_mono {w : World} {B B' : Nat} {ty : TypeId} {sz : Nat} {v : Value} {n : Nat} {cells : List Value} (h : w.ownsRow B' ty sz v n cells) (hB : B ≤ B') : w.ownsRow B ty sz v n cells := by
  refine ⟨h.1, ?_⟩
  rcases h.2 with h | ⟨g, cap, cur, e, hg, rest⟩
  · exact .inl h
  · exact .inr ⟨g, cap, cur, e, by omega, rest⟩
theorem HR.append {w : World} {B B' : Nat} {S : Nat → Prop} {γ : List Nat} {ρ ρ' : List Value} {boxes : List (List AV)} {rows news : List (Option Row)} (h : HR w B S γ ρ boxes rows) (h' : HR w B' S [] ρ' [] news) (hB : B ≤ B')
    (hγ : ∀ (k : Nat) (g : Nat), γ[k]? = some g → g < B') (hρ : ∀ (r : Nat) (rw_ : Row) (v : Value) (g : Nat), rows[r]? = some (some rw_) → ρ[r]? = some v → v.ownBlock = some g → g < B') :
    HR w B S γ (ρ ++ ρ') boxes (rows ++ news) := by
  have look : ∀ {r : Nat} {rw_ : Row} {v : Value}, (rows ++ news)[r]? = some (some rw_) → (ρ ++ ρ')[r]? = some v → (rows[r]? = some (some rw_) ∧ ρ[r]? = some v) ∨ (rows.length ≤ r ∧ news[r - rows.length]? = some (some rw_) ∧ ρ'[r - rows.length]? = some v) := by
    intro r rw_ v h1 h2
    by_cases hr : r < rows.length
    · rw [List.getElem?_append_left hr] at h1
      rw [List.getElem?_append_left (by rw [h.nr]; exact hr)] at h2
      exact .inl ⟨h1, h2⟩
    · rw [List.getElem?_append_right (by omega)] at h1
      rw [List.getElem?_append_right (by rw [h.nr]; omega), h.nr] at h2
      exact .inr ⟨by omega, h1, h2⟩
  have low : ∀ {r : Nat} {rw_ : Row} {v : Value} {g : Nat}, news[r]? = some (some rw_) → ρ'[r]? = some v → v.ownBlock = some g → B' ≤ g := fun h1 h2 h3 => by
    obtain ⟨_, _, _, cells, e4, _⟩ := h'.row _ _ _ h1 h2
    exact (e4.lt _ h3).1
  have mono : ∀ {b : Bool} {a : AV} {u : Value}, V w S γ ρ b a u → V w S γ (ρ ++ ρ') b a u := fun hv => hv.mono (fun p _ x hx => hx) (fun _ h => h) (fun _ _ h => h) (fun k g hg => by
    rw [List.getElem?_append_left (List.getElem?_eq_some_iff.1 hg).1]; exact hg)
  refine ⟨h.nb, by simp [h.nr, h'.nr], fun k cs g h1 h2 => ?_, fun r rw_ v h1 h2 => ?_, h.inj, fun k r g rw_ v h1 h2 h3 => ?_, fun r r' rw_ rw_' v v' g h1 h2 h3 h4 h5 h6 => ?_⟩
  · obtain ⟨e1, e2, us, ty, e3, e4, e5⟩ := h.box k cs g h1 h2
    exact ⟨e1, e2, us, ty, e3, e4, fun j c hj => let ⟨u, f1, f2, f3⟩ := e5 j c hj; ⟨u, f1, f2, mono f3⟩⟩
  · rcases look h1 h2 with ⟨h1, h2⟩ | ⟨_, h1, h2⟩
    · obtain ⟨e1, e2, e3, cells, e4, e5⟩ := h.row r rw_ v h1 h2
      exact ⟨e1, e2, e3, cells, e4, fun i x j c hi hj => let ⟨u, f1, f2, f3⟩ := e5 i x j c hi hj; ⟨u, f1, f2, f3.closed true⟩⟩
    · obtain ⟨e1, e2, e3, cells, e4, e5⟩ := h'.row _ rw_ v h1 h2
      exact ⟨e1, e2, e3, cells, ownsRow_mono e4 hB, fun i x j c hi hj => let ⟨u, f1, f2, f3⟩ := e5 i x j c hi hj; ⟨u, f1, f2, f3.closed true⟩⟩
  · rcases look h2 h3 with ⟨h2, h3⟩ | ⟨_, h2, h3⟩
    · exact h.sep k r g rw_ v h1 h2 h3
    · intro e
      have := low h2 h3 e
      have := hγ k g h1
      omega
  · rcases look h1 h3 with ⟨k1, k3⟩ | ⟨q1, k1, k3⟩ <;> rcases look h2 h4 with ⟨k2, k4⟩ | ⟨q2, k2, k4⟩
    · exact h.rinj r r' rw_ rw_' v v' g k1 k2 k3 k4 h5 h6
    · have := hρ r rw_ v g k1 k3 h5; have := low k2 k4 h6; omega
    · have := hρ r' rw_' v' g k2 k4 h6; have := low k1 k3 h5; omega
    · have := h'.rinj _ _ rw_ rw_' v v' g k1 k2 k3 k4 h5 h6; omega
theorem Rel.calledN {w0 : World} {S0 : Stab} {n : Nat} {st : ASt} {a : Act} {w w' : World} {S S' : Nat → Prop} {γ : List Nat} {ρ ρ' : List Value} {news : List (Option Row)} (h : RelAt w0 S0 n st a w S γ ρ)
    (hb : Below w.heap.size w w') (hS : ∀ g, S g → S' g) (hS' : ∀ g, S' g → S g ∨ (w.heap.size ≤ g ∧ g < w'.heap.size)) (hn : HR w' w.heap.size S' [] ρ' [] news) :
    RelAt w0 S0 n { st with rows := st.rows ++ news } a w' S' γ (ρ ++ ρ') := by
  have h2 := h.later hb hS hS'
  refine ⟨h2.below, h2.s0, h2.sw, h2.heap.append hn h.below.size (fun k g hg => ?_) (fun r rw_ v g e1 e2 e3 => ?_), h2.size, h2.defs, fun s => (h2.env s).mono (fun p _ x hx => hx) (fun _ h => h) (fun _ _ h => h) (fun k g hg => by
    rw [List.getElem?_append_left (List.getElem?_eq_some_iff.1 hg).1]; exact hg)⟩
  · obtain ⟨cs, hcs⟩ : ∃ cs, st.boxes[k]? = some cs := ⟨_, List.getElem?_eq_getElem (by rw [← h.heap.nb]; exact (List.getElem?_eq_some_iff.1 hg).1)⟩
    obtain ⟨_, _, us, ty, e3, _⟩ := h.heap.box k cs g hcs hg
    exact (Array.getElem?_eq_some_iff.1 e3).1
  · obtain ⟨_, _, _, cells, e4, _⟩ := h.heap.row r rw_ v e1 e2
    exact (e4.lt g e3).2
end Go.AL
namespace Go.AL
open Go.RowKit
set_option linter.unusedSimpArgs false
set_option linter.unusedVariables false
variable {P : Program}
def szT (P : Program) (t : TypeId) : Option Nat := (P.info? t).map (·.size)
def apT (P : Program) (t : TypeId) : Option (Nat × Nat × Nat) :=
  match P.underlying t with
  | some (.slice e) =>
    match P.info? e with
    | some i => match i.zero with
      | some z => if z.cells.size = i.size ∧ 0 < i.size ∧ 0 < i.bytes then some (e, i.size, i.bytes) else none
      | none => none
    | none => none
  | _ => none
def AV.cl : AV → Bool
  | .lit _ => true
  | .ro _ _ => true
  | .rop _ => true
  | _ => false
def partsA (sz : Nat) : Nat → List (Nat × AV) → Option (List (List AV))
  | _, [] => some []
  | k, (i, v) :: rest =>
    if i = k then
      match acells v, partsA sz (k + 1) rest with
      | some cs, some r => if cs.length = sz ∧ cs.all AV.one = true ∧ cs.all AV.cl = true then some (cs :: r) else none
      | _, _ => none
    else none
def killE (r : Nat) (env : List (Nat × AV)) : List (Nat × AV) := env.map fun p => (p.1, p.2.kill r)
def astep (P : Program) (st : ASt) (op : Op) (K : AV → ASt → Prop) : Prop :=
  match op with
  | .alloc t =>
    match zeroL P t with
    | some z => (z.all fun v => v.oneCell') = true ∧ K (.bp st.boxes.length 0) { st with boxes := st.boxes ++ [z.map .lit] }
    | none => False
  | .box t x =>
    match acells (un (evA st.env x)) with
    | some cs => uok true (evA st.env x) ∧ cs.all AV.one = true ∧ K (.bp st.boxes.length 0) { st with boxes := st.boxes ++ [cs] }
    | none => False
  | .store t p x =>
    match acells (un (evA st.env x)) with
    | some cs => uok true (evA st.env x) ∧ uok true (evA st.env p) ∧ szT P t = some cs.length ∧ cs.all AV.one = true ∧
      (match un (evA st.env p) with
      | .bp b off => match st.boxes[b]? with
        | some old => off + cs.length ≤ old.length ∧ K .any { st with boxes := st.boxes.set b (splice old off cs) }
        | none => False
      | .rp r sz i f => match getRow st.rows r sz with
        | some rw_ => i < rw_.elems.length ∧ f + cs.length ≤ sz ∧ cs.all AV.cl = true ∧ K .any { st with rows := st.rows.set r (some { rw_ with elems := rw_.elems.set i (splice (rw_.elems.getD i []) f cs) }) }
        | none => False
      | _ => False)
    | none => False
  | .buildSlice t len parts =>
    match apT P t with
    | some q => match partsA q.2.1 0 (parts.toList.map fun p => (p.1, un (evA st.env p.2))) with
      | some xs => uoks true (evA st.env) (parts.toList.map (·.2)) ∧ xs.length = len ∧ len * q.2.1 ≤ 16777216 ∧
          K (.own st.rows.length q.2.1 0 len) { st with rows := st.rows ++ [some ⟨q.1, q.2.1, xs⟩] }
      | none => False
    | none => False
  | .makeSlice t n c =>
    match apT P t, zeroL P (match apT P t with | some q => q.1 | none => 0), evA st.env n, evA st.env c with
    | some q, some z, .lit (.int _ m), .lit (.int _ m') => m = m' ∧ 0 ≤ m ∧ m * q.2.2 ≤ 140737488355328 ∧ (z.all fun v => v.oneCell') = true ∧
        K (.own st.rows.length q.2.1 0 m.toNat) { st with rows := st.rows ++ [some ⟨q.1, q.2.1, List.replicate m.toNat (z.map .lit)⟩] }
    | _, _, _, _ => False
  | .call ⟨.builtin .append, args, ts⟩ =>
    match args.toList, ts.toList with
    | [s, x], [t, t'] =>
      t = t' ∧ uok true (evA st.env s) ∧ uok true (evA st.env x) ∧
      match apT P t, elemsOf st.rows (un (evA st.env x)) with
      | some q, some y =>
        (y.1 = q.2.1 ∨ y.2 = []) ∧
        (match un (evA st.env s) with
        | .own r sz off len => match getRow st.rows r sz with
          | some rw_ => off = 0 ∧ sz = q.2.1 ∧ rw_.ty = q.1 ∧ (len + y.2.length) * q.2.2 ≤ 140737488355328 ∧
              K (.own r sz 0 (len + y.2.length)) { env := killE r st.env, boxes := st.boxes.map (List.map (AV.kill r)), rows := st.rows.set r (some { rw_ with elems := rw_.elems.take len ++ y.2 }) }
          | none => False
        | .lit (.slice none 0 0) => y.2.length * q.2.2 ≤ 140737488355328 ∧
              K (.own st.rows.length q.2.1 0 y.2.length) { st with rows := st.rows ++ [some ⟨q.1, q.2.1, y.2⟩] }
        | _ => False)
      | _, _ => False
    | _, _ => False
  | op => apure P st true op fun v => K v st
end Go.AL
namespace Go.AL
open Go.RowKit
set_option linter.unusedSimpArgs false
set_option linter.unusedVariables false
variable {P : Program}
section
variable {w0 : World} {S0 : Stab} {n : Nat} {st : ASt} {a : Act} {w w' : World} {S : Nat → Prop} {γ : List Nat} {ρ : List Value}
theorem RelAt.newBox (h : RelAt w0 S0 n st a w S γ ρ) {us : Array Value} {ty : TypeId} {cs : List AV} (hl : us.size = cs.length)
    (hv : ∀ (j : Nat) (c : AV), cs[j]? = some c → ∃ u, us[j]? = some u ∧ u.oneCell' = true ∧ V w S γ ρ false c u) :
    RelAt w0 S0 n { st with boxes := st.boxes ++ [cs] } a (w.alloc (.cells us ty)) S (γ ++ [w.heap.size]) ρ := by
  have hb : Below w.heap.size w (w.alloc (.cells us ty)) := (Below.refl _ _).alloc (Nat.le_refl _) _
  have h2 := h.later hb (fun _ h => h) (fun _ h => .inl h)
  have hsz := h.below.size
  have fresh1 : ∀ k, γ[k]? ≠ some w.heap.size := fun k e => by
    obtain ⟨cs', hcs⟩ : ∃ cs', st.boxes[k]? = some cs' := ⟨_, List.getElem?_eq_getElem (by rw [← h.heap.nb]; exact (List.getElem?_eq_some_iff.1 e).1)⟩
    obtain ⟨_, _, us', ty', e3, _⟩ := h.heap.box k cs' _ hcs e
    have := (Array.getElem?_eq_some_iff.1 e3).1; omega
  have fresh2 : ∀ (r : Nat) (rw_ : Row) (v : Value), st.rows[r]? = some (some rw_) → ρ[r]? = some v → v.ownBlock ≠ some w.heap.size := fun r rw_ v e1 e2 e3 => by
    obtain ⟨_, _, _, cells, e4, _⟩ := h.heap.row r rw_ v e1 e2
    have := (e4.lt _ e3).2; omega
  refine ⟨h2.below, h2.s0, h2.sw, ?_, h2.size, h2.defs, fun s => (h2.env s).mono (fun p _ x hx => hx) (fun _ h => h) (fun _ _ h => app_get h) (fun _ _ h => h)⟩
  exact h2.heap.extendBox hsz (fun hs => by have := h.sw _ hs; omega) (heap_alloc_new w _) hl (fun j c hj => let ⟨u, f1, f2, f3⟩ := hv j c hj; ⟨u, f1, f2, f3.mono (fun p hp x hx => by
    rw [hb.cell (h.sw _ hp)]; exact hx) (fun _ h => h) (fun _ _ h => h) (fun _ _ h => h)⟩) fresh1 fresh2
theorem RelAt.newRow (h : RelAt w0 S0 n st a w S γ ρ) (hb : Below w.heap.size w w') {rw_ : Row} {v : Value} (hpos : 0 < rw_.sz) (hlen : ∀ x ∈ rw_.elems, x.length = rw_.sz)
    (hfresh : ∀ g, v.ownBlock = some g → w.heap.size ≤ g) {cells : List Value} (hown : w'.ownsRow w0.heap.size rw_.ty rw_.sz v rw_.elems.length cells)
    (hv : ∀ (i : Nat) (x : List AV) (j : Nat) (c : AV), rw_.elems[i]? = some x → x[j]? = some c → ∃ u, cells[i * rw_.sz + j]? = some u ∧ u.oneCell' = true ∧ V w S γ ρ true c u) :
    RelAt w0 S0 n { st with rows := st.rows ++ [some rw_] } a w' S γ (ρ ++ [v]) := by
  have h2 := h.later hb (fun _ h => h) (fun _ h => .inl h)
  refine ⟨h2.below, h2.s0, h2.sw, ?_, h2.size, h2.defs, fun s => (h2.env s).mono (fun p _ x hx => hx) (fun _ h => h) (fun _ _ h => h) (fun _ _ h => app_get h)⟩
  refine h2.heap.extendRow hpos hlen (fun g hg hs => by have := h.sw _ hs; have := hfresh g hg; omega) hown (fun i x j c hi hj => let ⟨u, f1, f2, f3⟩ := hv i x j c hi hj; ⟨u, f1, f2, f3.mono (fun p hp x hx => by
    rw [hb.cell (h.sw _ hp)]; exact hx) (fun _ h => h) (fun _ _ h => h) (fun _ _ h => h)⟩) (fun k g hg e => ?_) (fun r rw' v' g e1 e2 e3 e4 => ?_)
  · obtain ⟨cs', hcs⟩ : ∃ cs', st.boxes[k]? = some cs' := ⟨_, List.getElem?_eq_getElem (by rw [← h.heap.nb]; exact (List.getElem?_eq_some_iff.1 e).1)⟩
    obtain ⟨_, _, us', ty', e3, _⟩ := h.heap.box k cs' _ hcs e
    have := (Array.getElem?_eq_some_iff.1 e3).1; have := hfresh g hg; omega
  · obtain ⟨_, _, _, cells, e5, _⟩ := h.heap.row r rw' v' e1 e2
    have := (e5.lt _ e3).2; have := hfresh g e4; omega
end
theorem all_one {w : World} {S : Nat → Prop} {γ : List Nat} {ρ : List Value} {cs : List AV} {us : Array Value} (hall : cs.all AV.one = true)
    (hs : us.size = cs.length) (hv : ∀ (i : Nat) (c : AV) (x : Value), cs[i]? = some c → us[i]? = some x → V w S γ ρ false c x) :
    ∀ (j : Nat) (c : AV), cs[j]? = some c → ∃ u, us[j]? = some u ∧ u.oneCell' = true ∧ V w S γ ρ false c u := by
  intro j c hj
  have hjl := (List.getElem?_eq_some_iff.1 hj).1
  have hu : us[j]? = some (us[j]'(by omega)) := Array.getElem?_eq_getElem _
  have hvj := hv j c _ hj hu
  exact ⟨_, hu, hvj.one (List.all_eq_true.1 hall c (List.mem_of_getElem? hj)), hvj⟩
theorem V.cl {w : World} {S : Nat → Prop} {γ : List Nat} {ρ : List Value} {b : Bool} {c : AV} {u : Value} (h : V w S γ ρ b c u) (hc : c.cl = true) : V w S γ ρ true c u := by
  cases h <;> try (cases hc; done)
  · exact .lit
  · rename_i U hn hcc hm hz hA hv; exact .ro U hn hcc hm hz hA hv
  · rename_i U hS hcell hv; exact .rop U hS hcell hv
theorem spl_get (us : List Value) (o : Nat) (vs : List Value) (j : Nat) (h : o + vs.length ≤ us.length) :
    (us.take o ++ vs ++ us.drop (o + vs.length))[j]? = if o ≤ j ∧ j < o + vs.length then vs[j - o]? else us[j]? := by
  have h1 : (us.take o).length = o := by simp; omega
  by_cases hj : j < o
  · rw [if_neg (by omega), List.append_assoc, List.getElem?_append_left (by omega), List.getElem?_take, if_pos hj]
  · by_cases hj2 : j < o + vs.length
    · rw [if_pos ⟨by omega, hj2⟩, List.append_assoc, List.getElem?_append_right (by omega), h1, List.getElem?_append_left (by omega)]
    · rw [if_neg (by omega), List.getElem?_append_right (by simp; omega), List.getElem?_drop]
      congr 1
      simp; omega
theorem run_storeAt {w : World} {g o : Nat} {us : Array Value} {ty t : TypeId} {u : Value} (hh : w.heap[g]? = some (.cells us ty (0, 0))) (hs : szT P t = some u.cells.size) (ho : o + u.cells.size ≤ us.size)
    (h1 : ∀ x ∈ u.cells.toList, x.oneCell' = true) :
    (Instr.storeAt t (.pointer (some ⟨g, o, none⟩)) u).run P w = .ok () (w.setRow g (us.toList.take o ++ u.cells.toList ++ us.toList.drop (o + u.cells.toList.length)).toArray) := by
  have := run_storeCells_at (P := P) g o ty u.cells.toList 0 us w hh (by simp; omega) h1
  obtain ⟨i, hi, hsz⟩ := Option.map_eq_some_iff.1 hs
  simp only [Nat.add_zero] at this
  simp [Instr.storeAt, Instr.sureAddr, storeVar, sizeOf, typeInfo, hi, hsz, this]
theorem apT_spec {t : TypeId} {q : Nat × Nat × Nat} (h : apT P t = some q) : ∃ i z, P.underlying t = some (.slice q.1) ∧ P.info? q.1 = some i ∧ i.zero = some z ∧ i.size = q.2.1 ∧ i.bytes = q.2.2 ∧ z.cells.size = q.2.1 ∧ 0 < q.2.1 ∧ 0 < q.2.2 := by
  unfold apT at h
  split at h
  · rename_i e hu
    split at h
    · rename_i i hi
      split at h
      · rename_i z hz
        split at h
        · rename_i hc; cases h; exact ⟨i, z, hu, hi, hz, rfl, rfl, hc.1, hc.2.1, hc.2.2⟩
        · cases h
      · cases h
    · cases h
  · cases h
theorem run_append_nil {w : World} (base : Nat) (t ty e : TypeId) (i : TypeInfo) (size : Nat) (ht : P.underlying t = some (.slice e)) (hi : P.info? e = some i)
    (v : Value) (n : Nat) (xs : List Value) (hown : w.ownsRow base e size v n xs) (c : Nat) (A : Option Addr) : (Builtin.append_ #[t, t] ty #[v, .slice A 0 c]).run P w = .ok v w := by
  have hfc : ∀ w : World, (Builtin.firstCells i.size 0 (.slice A 0 c)).run P w = .ok #[] w := by
    intro w
    cases A with
    | none => simp [Builtin.firstCells]
    | some a => simp [Builtin.firstCells, loadCells, loadCellsFrom]
  rcases hown.2 with ⟨rfl, rfl⟩ | ⟨g, cap, cur, rfl, _, _, hnc, _⟩
  · simp [Builtin.append_, run_underlying ht, sizeOf, typeInfo, hi, Builtin.lenOf, hfc]
  · simp [Builtin.append_, run_underlying ht, sizeOf, typeInfo, hi, Builtin.lenOf, hfc, hnc, storeCells]
theorem elems_cells {w : World} {B : Nat} {S : Nat → Prop} {γ : List Nat} {ρ : List Value} {boxes : List (List AV)} {rows : List (Option Row)} (hr : HR w B S γ ρ boxes rows) {x : AV} {u : Value} {y : Nat × List (List AV)}
    (hv : V w S γ ρ false x u) (h : elemsOf rows x = some y) :
    ∃ A c, u = .slice A y.2.length c ∧ (∀ r ∈ y.2, r.length = y.1) ∧ (y.2 ≠ [] → ∃ ad, A = some ad ∧ ∀ i x j c, y.2[i]? = some x → x[j]? = some c → ∃ z, w.cell? (ad.add (i * y.1 + j)) = some z ∧ z.oneCell' = true ∧ V w S γ ρ true c z) := by
  cases x <;> try (simp [elemsOf] at h; done)
  case lit v =>
    have := hv.lit_eq
    subst this
    unfold elemsOf at h
    split at h <;> try (cases h; done)
    all_goals (rename_i he; try (cases he; done))
    · injection he with he
      subst he
      cases h
      exact ⟨_, _, rfl, by simp, fun h => absurd rfl h⟩
  case ro sz xs =>
    simp only [elemsOf, Option.some.injEq] at h
    subst h
    cases hv with
    | ro U hn hc hm hz hA hv =>
      subst hn
      refine ⟨_, _, rfl, hz, fun hne => ?_⟩
      obtain ⟨ad, e, _, hcell⟩ := hA hne
      exact ⟨ad, e, fun i x j c hi hj => ⟨_, (hcell i x j c hi hj).1, (hcell i x j c hi hj).2, hv i x j c hi hj⟩⟩
  case own r sz off len =>
    simp only [elemsOf] at h
    obtain ⟨rw_, hg, rfl⟩ := Option.map_eq_some_iff.1 h
    obtain ⟨hrow, rfl⟩ := getRow_spec hg
    cases hv with
    | own hρ h0 hlen h1 hm hA =>
      rename_i A c A0 n0 c0
      obtain ⟨hpos, hlenz, _, cells, hown, hc⟩ := hr.row r rw_ _ hrow hρ
      have hn0 : n0 = rw_.elems.length := by
        rcases hown.2 with ⟨e, hz0⟩ | ⟨g, cap, cur, e, _⟩
        · injection e with _ e2 _; omega
        · injection e with _ e2 _
      have hlen' : ((rw_.elems.drop off).take len).length = len := by simp; omega
      refine ⟨A, c, by simp only [hlen'], fun x hx => hlenz x (List.mem_of_mem_drop (List.mem_of_mem_take hx)), fun hne => ?_⟩
      have hl0 : 0 < len := by
        rcases Nat.eq_zero_or_pos len with h | h
        · subst h; simp at hne
        · exact h
      obtain ⟨g, rfl, rfl⟩ := hA hl0
      refine ⟨_, rfl, fun i x j y hi hj => ?_⟩
      simp only at hi
      rw [List.getElem?_take] at hi
      split at hi
      · rw [List.getElem?_drop] at hi
        obtain ⟨z, h2, h4, h3⟩ := hc _ x j y hi hj
        refine ⟨z, ?_, h4, h3⟩
        rw [addr_add]
        have := own_cell hown h2
        rw [show off * rw_.sz + (i * rw_.sz + j) = (off + i) * rw_.sz + j by rw [Nat.add_mul]; omega]
        exact this
      · cases hi
theorem flat_cells (sz : Nat) (f : Nat → Nat → Value) : ∀ (m : Nat), ∃ L : List Value, L.length = m * sz ∧ ∀ i j, i < m → j < sz → L[i * sz + j]? = some (f i j)
  | 0 => ⟨[], by simp, fun i j h => by omega⟩
  | m + 1 => by
    obtain ⟨L, hl, hL⟩ := flat_cells sz f m
    refine ⟨L ++ (List.range sz).map (f m), by simp [hl, Nat.add_mul], fun i j hi hj => ?_⟩
    by_cases hm : i < m
    · rw [List.getElem?_append_left, hL i j hm hj]
      rw [hl]
      have : (i + 1) * sz ≤ m * sz := Nat.mul_le_mul_right _ hm
      rw [Nat.add_mul] at this; omega
    · have : i = m := by omega
      subst this
      rw [List.getElem?_append_right (by omega), hl]
      rw [show i * sz + j - i * sz = j by omega]
      simp [hj]
end Go.AL
namespace Go.AL
open Go.RowKit
set_option linter.unusedSimpArgs false
set_option linter.unusedVariables false
variable {P : Program}
theorem partsA_spec {sz : Nat} : ∀ (k : Nat) (ps : List (Nat × AV)) (xs : List (List AV)), partsA sz k ps = some xs →
    xs.length = ps.length ∧ ∀ i p x, ps[i]? = some p → xs[i]? = some x → p.1 = k + i ∧ acells p.2 = some x ∧ x.length = sz ∧ x.all AV.one = true ∧ x.all AV.cl = true
  | k, [], xs, h => by
    simp only [partsA, Option.some.injEq] at h; subst h
    exact ⟨rfl, fun i p x h1 h2 => by simp at h1⟩
  | k, (j, v) :: ps, xs, h => by
    simp only [partsA] at h
    split at h
    · rename_i hj
      cases h1 : acells v with
      | none => simp [h1] at h
      | some cs =>
        cases h2 : partsA sz (k + 1) ps with
        | none => simp [h1, h2] at h
        | some r =>
          simp only [h1, h2] at h
          split at h
          · rename_i hc
            cases h
            obtain ⟨e1, e2⟩ := partsA_spec (k + 1) ps r h2
            refine ⟨by simp [e1], fun i p x h3 h4 => ?_⟩
            cases i with
            | zero => simp at h3 h4; subst h3; subst h4; exact ⟨hj, h1, hc.1, hc.2.1, hc.2.2⟩
            | succ i =>
              obtain ⟨f1, f2⟩ := e2 i p x (by simpa using h3) (by simpa using h4)
              exact ⟨by rw [f1]; omega, f2⟩
          · cases h
    · cases h
theorem fill_seq (sz : Nat) : ∀ (us : List (Nat × Value)) (k : Nat) (uc : Array Value), (∀ i p, us[i]? = some p → p.1 = k + i ∧ p.2.cells.size = sz) → (k + us.length) * sz ≤ uc.size →
    ∃ ur, Instr.fill (fun i => some (i * sz, sz)) uc us = some ur ∧ ur.size = uc.size ∧ (∀ p, p < k * sz → ur[p]? = uc[p]?) ∧ ∀ i j p x, us[i]? = some p → p.2.cells[j]? = some x → ur[(k + i) * sz + j]? = some x
  | [], k, uc, _, _ => ⟨uc, rfl, rfl, fun _ _ => rfl, fun i j p x h => by simp at h⟩
  | (i0, v) :: us, k, uc, h, hl => by
    obtain ⟨h1, h2⟩ := h 0 _ rfl
    simp only [Nat.add_zero] at h1 h2
    subst h1
    obtain ⟨f1, f2⟩ := foldl_set (i0 * sz) v.cells.toList 0 uc
    have hzip : v.cells.zipIdx.foldl (fun cs (c, j) => cs.setIfInBounds (i0 * sz + j) c) uc = (v.cells.toList.zipIdx 0).foldl (fun cs (q : Value × Nat) => cs.setIfInBounds (i0 * sz + q.2) q.1) uc := by
      rw [← Array.foldl_toList, Array.toList_zipIdx]
    have hsz : (i0 + 1 + us.length) * sz ≤ uc.size := by rw [List.length_cons] at hl; rw [show i0 + 1 + us.length = i0 + (us.length + 1) by omega]; exact hl
    have hbig : i0 * sz + sz ≤ uc.size := by
      have : (i0 + 1) * sz ≤ (i0 + 1 + us.length) * sz := Nat.mul_le_mul_right _ (by omega)
      rw [Nat.add_mul, Nat.one_mul] at this; omega
    obtain ⟨ur, e1, e2, e3, e4⟩ := fill_seq sz us (i0 + 1) ((v.cells.toList.zipIdx 0).foldl (fun cs (q : Value × Nat) => cs.setIfInBounds (i0 * sz + q.2) q.1) uc)
      (fun i p hp => by obtain ⟨g1, g2⟩ := h (i + 1) p (by simpa using hp); exact ⟨by rw [g1]; omega, g2⟩) (by rw [f1]; exact hsz)
    refine ⟨ur, ?_, by rw [e2, f1], fun p hp => ?_, fun i j p x h3 h4 => ?_⟩
    · simp only [Instr.fill]
      rw [if_neg (by simp; omega), hzip]
      exact e1
    · rw [e3 p (by rw [Nat.add_mul]; omega), f2, if_neg (by omega)]
    · cases i with
      | zero =>
        simp at h3; subst h3
        have hj : j < sz := by have := (Array.getElem?_eq_some_iff.1 h4).1; simp only at this; omega
        rw [Nat.add_zero, e3 _ (by rw [Nat.add_mul]; omega), f2]
        simp only at h4
        rw [if_pos ⟨by omega, by simp; omega, by omega⟩]
        simpa using h4
      | succ i =>
        have := e4 i j p x (by simpa using h3) h4
        rw [show i0 + (i + 1) = i0 + 1 + i by omega]; exact this
theorem madeCells_get (z : Array Value) (hz : 0 < z.size) (m i j : Nat) (hi : i < m) (hj : j < z.size) : (madeCells z (m * z.size)).toList[i * z.size + j]? = z[j]? := by
  have hlt : i * z.size + j < m * z.size := by
    have : (i + 1) * z.size ≤ m * z.size := Nat.mul_le_mul_right _ hi
    rw [Nat.add_mul] at this; omega
  unfold madeCells
  simp only [Array.toList_map, Array.toList_range, List.getElem?_map]
  rw [List.getElem?_range hlt]
  simp only [Option.map_some]
  rw [Nat.mul_add_mod_self_right, Nat.mod_eq_of_lt hj]
  simp [hj]
theorem own_take {w : World} {B ty sz n : Nat} {A : Option Addr} {n0 c : Nat} {cells : List Value} (h : w.ownsRow B ty sz (.slice A n0 c) n cells) {k : Nat} (hk : k ≤ n) :
    w.ownsRow B ty sz (.slice A k c) k (cells.take (k * sz)) := by
  have hle : k * sz ≤ n * sz := Nat.mul_le_mul_right _ hk
  refine ⟨by rw [List.length_take, h.1]; omega, ?_⟩
  rcases h.2 with ⟨e, hz⟩ | ⟨g, cap, cur, e, hg, hh, hn, hcap, hsz, ht⟩
  · injection e with e1 e2 e3
    left
    exact ⟨by rw [e1, e3]; congr 1; omega, by omega⟩
  · injection e with e1 e2 e3
    right
    refine ⟨g, cap, cur, by rw [e1, e3], hg, hh, by omega, hcap, hsz, ?_⟩
    rw [← ht, List.take_take, Nat.min_eq_left hle]
theorem own_store {w : World} {B ty sz n : Nat} {g n' c o : Nat} {cells vs : List Value} (h : w.ownsRow B ty sz (.slice (some ⟨g, 0, none⟩) n' c) n cells) (ho : o + vs.length ≤ n * sz) {cur : Array Value} 
    (hh : w.heap[g]? = some (.cells cur ty (0, 0))) :
    ∃ cells', (w.setRow g (cur.toList.take o ++ vs ++ cur.toList.drop (o + vs.length)).toArray).ownsRow B ty sz (.slice (some ⟨g, 0, none⟩) n' c) n cells' ∧ o + vs.length ≤ cur.size ∧
      ∀ j, j < n * sz → cells'[j]? = if o ≤ j ∧ j < o + vs.length then vs[j - o]? else cells[j]? := by
  obtain ⟨rfl, hB, hc, hn, cur', hh', hsz, ht⟩ := own_cells h
  rw [hh] at hh'; injection hh' with hh'; injection hh' with hh'
  subst hh'
  have hle : n' * sz ≤ cur.size := by rw [hsz]; exact Nat.mul_le_mul_right _ hn
  have hlen : (cur.toList.take o ++ vs ++ cur.toList.drop (o + vs.length)).length = cur.size := by simp; omega
  refine ⟨(cur.toList.take o ++ vs ++ cur.toList.drop (o + vs.length)).take (n' * sz), ⟨by rw [List.length_take, hlen]; omega, .inr ⟨g, c, _, rfl, hB, setRow_heap w g cur _ ty (0, 0) hh, hn, hc, by simpa [hsz] using hlen.trans hsz, by simp⟩⟩, by omega, fun j hj => ?_⟩
  rw [List.getElem?_take, if_pos hj, spl_get _ _ _ _ (by simp; omega)]
  by_cases hin : o ≤ j ∧ j < o + vs.length
  · rw [if_pos hin, if_pos hin]
  · rw [if_neg hin, if_neg hin, ← ht, List.getElem?_take, if_pos hj]
theorem eget_kill (r s : Nat) : ∀ env, eget (killE r env) s = (eget env s).kill r ∨ eget (killE r env) s = .any
  | [] => .inr rfl
  | (k, v) :: env => by
    simp only [killE, List.map_cons, eget]
    by_cases h : k = s
    · rw [if_pos h, if_pos h]; exact .inl rfl
    · rw [if_neg h, if_neg h]; exact eget_kill r s env
theorem astep_sound {w0 : World} {S0 : Stab} {n : Nat} {st : ASt} {a : Act} {w : World} {S : Nat → Prop} {γ : List Nat} {ρ : List Value} (h : RelAt w0 S0 n st a w S γ ρ)
    {o : Oper} {K : AV → ASt → Prop} (hp : astep P st o.op K) :
    ∃ v st', K v st' ∧ ∀ (next : Act → World → Prop) (Q : Exit → Act → World → Prop), (∀ u w' S' γ' ρ', RelAt w0 S0 n st' a w' S' γ' ρ' → V w' S' γ' ρ' false v u → next (a.put o.dst u) w') → o.wp P a w next Q := by
  have pure_case : apure P st true o.op (fun v => K v st) → ∃ v st', K v st' ∧ ∀ (next : Act → World → Prop) (Q : Exit → Act → World → Prop), (∀ u w' S' γ' ρ', RelAt w0 S0 n st' a w' S' γ' ρ' → V w' S' γ' ρ' false v u → next (a.put o.dst u) w') → o.wp P a w next Q := by
    intro hp
    obtain ⟨v, hK, hn⟩ := apure_sound h rfl hp
    exact ⟨v, st, hK, fun next Q hnext => hn next Q fun u w' S' hb hS hS' hv => hnext u w' S' γ ρ (h.later hb hS hS') hv⟩
  have hw0 := h.below.size
  have put_undef : ∀ (dst : Option Tmp) (a : Act), True := fun _ _ => trivial
  obtain ⟨dst, op, ty, pos, after, guard⟩ := o
  simp only at hp pure_case
  unfold astep at hp
  split at hp
  · -- alloc
    rename_i t
    split at hp
    · rename_i z hz
      obtain ⟨h1, hK⟩ := hp
      obtain ⟨i, zv, hi, hzv, rfl⟩ := zeroL_spec hz
      refine ⟨_, _, hK, fun next Q hn => ?_⟩
      have hrun : (execOp a.eval ⟨dst, .alloc t, ty, pos, after, guard⟩).run P w = .ok (.value (.pointer (some ⟨w.heap.size, 0, none⟩))) (w.alloc (.cells zv.cells t)) := by
        simp [execOp, Instr.alloc, zeroValue, typeInfo, hi, hzv, newVar, newRow]
      unfold Oper.wp
      rw [hrun]
      refine hn _ _ S _ ρ (h.newBox (us := zv.cells) (by simp) fun j c hj => ?_) (.bp ?_)
      · rw [List.getElem?_map] at hj
        obtain ⟨x, hx, rfl⟩ := Option.map_eq_some_iff.1 hj
        exact ⟨x, by simpa using hx, List.all_eq_true.1 h1 x (List.mem_of_getElem? hx), .lit⟩
      · rw [← h.heap.nb]; simp
    · cases hp
  · -- box
    rename_i t x
    split at hp
    · rename_i cs hcs
      obtain ⟨hu, h1, hK⟩ := hp
      refine ⟨_, _, hK, fun next Q hn => ?_⟩
      obtain ⟨hs, hv⟩ := acells_sound ((h.ev x).un rfl hu) hcs
      have hrun : (execOp a.eval ⟨dst, .box t x, ty, pos, after, guard⟩).run P w = .ok (.value (.pointer (some ⟨w.heap.size, 0, none⟩))) (w.alloc (.cells (a.eval x).cells t)) := by
        simp [execOp, Instr.box, newVar, newRow]
      unfold Oper.wp
      rw [hrun]
      refine hn _ _ S _ ρ (h.newBox (us := (a.eval x).cells) hs (all_one h1 hs hv)) (.bp ?_)
      rw [← h.heap.nb]; simp
    · cases hp
  · -- store
    rename_i t p x
    split at hp
    · rename_i cs hcs
      obtain ⟨hux, hup, hsz, h1, hp⟩ := hp
      obtain ⟨hs, hv⟩ := acells_sound ((h.ev x).un rfl hux) hcs
      have hall := all_one h1 hs hv
      have vp := (h.ev p).un rfl hup
      have hone : ∀ y ∈ (a.eval x).cells.toList, y.oneCell' = true := by
        intro y hy
        obtain ⟨j, hj⟩ := List.getElem?_of_mem hy
        obtain ⟨c, hc⟩ : ∃ c, cs[j]? = some c := ⟨_, List.getElem?_eq_getElem (by have := (List.getElem?_eq_some_iff.1 hj).1; simp at this; omega)⟩
        obtain ⟨u, f1, f2, _⟩ := hall j c hc
        have : (a.eval x).cells[j]? = some y := by simpa using hj
        rw [this] at f1; cases f1; exact f2
      split at hp
      · rename_i b off hb
        split at hp
        · rename_i old hold
          obtain ⟨hoff, hK⟩ := hp
          rw [hb] at vp
          refine ⟨_, _, hK, fun next Q hn => ?_⟩
          generalize hpe : a.eval p = up at vp
          cases vp with
          | bp hγ =>
            rename_i g
            obtain ⟨hB, hnS, us, ty', hh, hus, hcells⟩ := h.heap.box b old g hold hγ
            have hrun := run_storeAt (P := P) (t := t) (u := a.eval x) (o := off) hh (by rw [hsz, hs]) (by omega) hone
            have hex : (execOp a.eval ⟨dst, .store t p x, ty, pos, after, guard⟩).run P w = .ok .skip (w.setRow g (us.toList.take off ++ (a.eval x).cells.toList ++ us.toList.drop (off + (a.eval x).cells.toList.length)).toArray) := by
              simp only [execOp, hpe, Sem.run_bind, hrun, Result.andThen_ok, Sem.run_pure]
            unfold Oper.wp
            rw [hex]
            have hlt : g < w.heap.size := (Array.getElem?_eq_some_iff.1 hh).1
            have hbelow : Below w0.heap.size w0 (w.setRow g (us.toList.take off ++ (a.eval x).cells.toList ++ us.toList.drop (off + (a.eval x).cells.toList.length)).toArray) :=
              h.below.trans ⟨rfl, rfl, rfl, by simp, fun k hk => setRow_other w g k _ (by omega)⟩
            have hlk : ∀ k, KeepL k w S → KeepL k (w.setRow g (us.toList.take off ++ (a.eval x).cells.toList ++ us.toList.drop (off + (a.eval x).cells.toList.length)).toArray) S := fun _ hk => hk.other (row := some g) (fun r e => by cases e; exact ⟨_, _, _, hh⟩) (fun k hk hne => setRow_other w g k _ (fun e => hne (by rw [e])))
            refine hn undef _ S γ ρ ⟨hbelow, ⟨h.s0.1, hlk _ h.s0.2⟩, fun b hb => by simpa using h.sw b hb, ?_, h.size, h.defs.map hlk, fun s => (h.env s).mono (fun q hq x hx => by
              rw [cell_setRow_other w g _ q (fun e => hnS (e ▸ hq))]; exact hx) (fun _ h => h) (fun _ _ h => h) (fun _ _ h => h)⟩ .any
            refine h.heap.setBox hold hγ hh (by rw [splice_length]; simp; omega) fun j c hj => ?_
            rw [splice_get _ _ _ _ hoff] at hj
            simp only [List.getElem?_toArray]
            rw [spl_get _ _ _ _ (by simp; omega)]
            simp only [Array.length_toList, hs]
            by_cases hin : off ≤ j ∧ j < off + cs.length
            · rw [if_pos hin] at hj ⊢
              obtain ⟨u, f1, f2, f3⟩ := hall _ c hj
              exact ⟨u, by simpa using f1, f2, f3⟩
            · rw [if_neg hin] at hj ⊢
              obtain ⟨u, f1, f2, f3⟩ := hcells j c hj
              exact ⟨u, by simpa using f1, f2, f3⟩
        · cases hp
      · rename_i r sz i f hrp
        split at hp
        · rename_i rw_ hg
          obtain ⟨hi, hf, hcl, hK⟩ := hp
          obtain ⟨hrow, hszr⟩ := getRow_spec hg
          rw [hrp] at vp
          refine ⟨_, _, hK, fun next Q hn => ?_⟩
          generalize hpe : a.eval p = up at vp
          cases vp with
          | rp hρ =>
            rename_i g n' c'
            obtain ⟨hpos, hlenz, hnS, cells, hown, hcv⟩ := h.heap.row r rw_ _ hrow hρ
            obtain ⟨_, hBg, _, _, cur, hh, hcsz, hct⟩ := own_cells hown
            subst hszr
            have hoff : i * rw_.sz + f + (a.eval x).cells.toList.length ≤ rw_.elems.length * rw_.sz := by
              have : (i + 1) * rw_.sz ≤ rw_.elems.length * rw_.sz := Nat.mul_le_mul_right _ hi
              rw [Nat.add_mul] at this
              simp only [Array.length_toList]; omega
            obtain ⟨cells', hown', hcur, hget⟩ := own_store hown hoff hh
            have hrun := run_storeAt (P := P) (t := t) (u := a.eval x) (o := i * rw_.sz + f) hh (by rw [hsz, hs]) (by simpa using hcur) hone
            have hex : (execOp a.eval ⟨dst, .store t p x, ty, pos, after, guard⟩).run P w = .ok .skip (w.setRow g (cur.toList.take (i * rw_.sz + f) ++ (a.eval x).cells.toList ++ cur.toList.drop (i * rw_.sz + f + (a.eval x).cells.toList.length)).toArray) := by
              simp only [execOp, hpe, Sem.run_bind, hrun, Result.andThen_ok, Sem.run_pure]
            unfold Oper.wp
            rw [hex]
            have hlt : g < w.heap.size := (Array.getElem?_eq_some_iff.1 hh).1
            generalize hW : w.setRow g (cur.toList.take (i * rw_.sz + f) ++ (a.eval x).cells.toList ++ cur.toList.drop (i * rw_.sz + f + (a.eval x).cells.toList.length)).toArray = W at *
            have hgrow : w.grownBy W (some g) := by
              subst hW; exact ⟨rfl, rfl, rfl, by simp, fun k hk hne => setRow_other w g k _ (fun e => hne (by rw [e]))⟩
            have hbelow : Below w0.heap.size w0 W := h.below.grown hgrow hw0 (fun k e => by cases e; exact hBg)
            have hstab : ∀ q : Addr, S q.block → ∀ x, w.cell? q = some x → W.cell? q = some x := fun q hq x hx => by
              rw [World.cell?_of_block (hgrow.block q.block (h.sw _ hq) (fun e => hnS q.block e.symm hq))]; exact hx
            have hρset : ρ.set r (.slice (some ⟨g, 0, none⟩) n' c') = ρ := by
              apply List.ext_getElem?
              intro k
              by_cases hk : k = r
              · subst hk; rw [List.getElem?_set_self (List.getElem?_eq_some_iff.1 hρ).1]; exact hρ.symm
              · rw [List.getElem?_set_ne (fun e => hk e.symm)]
            have hheap := h.heap.setRow (w' := W) (rw' := { rw_ with elems := rw_.elems.set i (splice (rw_.elems.getD i []) f cs) }) (v' := .slice (some ⟨g, 0, none⟩) n' c') hrow hρ h.sw hgrow (.inl rfl) hpos
              (fun x hx => by
                rcases List.mem_or_eq_of_mem_set hx with hx | rfl
                · exact hlenz x hx
                · rw [splice_length, List.getD_eq_getElem?_getD, List.getElem?_eq_getElem hi]; exact hlenz _ (List.getElem_mem _)) (cells := cells') (by simpa using hown')
              (fun k x j c hk hj => by
                simp only at hk
                have hxl : ∀ y, rw_.elems[i]? = some y → (rw_.elems.getD i []) = y := fun y hy => by rw [List.getD_eq_getElem?_getD, hy]; rfl
                obtain ⟨y, hy⟩ : ∃ y, rw_.elems[i]? = some y := ⟨_, List.getElem?_eq_getElem hi⟩
                have hyl := hlenz y (List.mem_of_getElem? hy)
                rw [hxl y hy] at hk
                by_cases hki : k = i
                · subst hki
                  rw [List.getElem?_set_self hi] at hk; cases hk
                  have hjl : j < rw_.sz := by have := (List.getElem?_eq_some_iff.1 hj).1; rw [splice_length] at this; omega
                  rw [splice_get _ _ _ _ (by omega)] at hj
                  have hb : k * rw_.sz + j < rw_.elems.length * rw_.sz := by
                    have : (k + 1) * rw_.sz ≤ rw_.elems.length * rw_.sz := Nat.mul_le_mul_right _ hi
                    rw [Nat.add_mul] at this; omega
                  show ∃ u, cells'[k * rw_.sz + j]? = some u ∧ _
                  rw [hget _ hb]
                  by_cases hin : f ≤ j ∧ j < f + cs.length
                  · rw [if_pos hin] at hj
                    rw [if_pos (by simp only [Array.length_toList]; omega)]
                    obtain ⟨u, f1, f2, f3⟩ := hall _ c hj
                    refine ⟨u, ?_, f2, f3.cl (List.all_eq_true.1 hcl c (List.mem_of_getElem? hj))⟩
                    rw [show k * rw_.sz + j - (k * rw_.sz + f) = j - f by omega]
                    simpa using f1
                  · rw [if_neg hin] at hj
                    rw [if_neg (by simp only [Array.length_toList]; omega)]
                    exact hcv k y j c hy hj
                · rw [List.getElem?_set_ne (fun e => hki e.symm)] at hk
                  have hkl := (List.getElem?_eq_some_iff.1 hk).1
                  have hjl : j < rw_.sz := by have := (List.getElem?_eq_some_iff.1 hj).1; rw [hlenz x (List.mem_of_getElem? hk)] at this; exact this
                  have hb : k * rw_.sz + j < rw_.elems.length * rw_.sz := by
                    have : (k + 1) * rw_.sz ≤ rw_.elems.length * rw_.sz := Nat.mul_le_mul_right _ hkl
                    rw [Nat.add_mul] at this; omega
                  show ∃ u, cells'[k * rw_.sz + j]? = some u ∧ _
                  rw [hget _ hb, if_neg]
                  · exact hcv k x j c hk hj
                  · simp only [Array.length_toList]
                    rcases Nat.lt_or_ge k i with hlt | hge
                    · have : (k + 1) * rw_.sz ≤ i * rw_.sz := Nat.mul_le_mul_right _ hlt
                      rw [Nat.add_mul] at this; omega
                    · have : (i + 1) * rw_.sz ≤ k * rw_.sz := Nat.mul_le_mul_right _ (by omega)
                      rw [Nat.add_mul] at this; omega)
              st.boxes rfl (fun k cs' hk => ⟨cs', hk, rfl, fun j c' c u h1 h2 hv => by rw [h1] at h2; cases h2; rw [hρset]; exact hv⟩)
            rw [hρset] at hheap
            have hlk : ∀ k, KeepL k w S → KeepL k W S := fun _ hk => hk.other (row := some g) (fun r e => by cases e; exact ⟨_, _, _, hh⟩) (fun k hk hne => hgrow.block k hk hne)
            exact hn undef W S γ ρ ⟨hbelow, ⟨h.s0.1, hlk _ h.s0.2⟩, fun b hb => Nat.lt_of_lt_of_le (h.sw b hb) hgrow.size, hheap, h.size, h.defs.map hlk, fun s => (h.env s).mono hstab (fun _ h => h) (fun _ _ h => h) (fun _ _ h => h)⟩ .any
        · cases hp
      · cases hp
    · cases hp
  · -- buildSlice
    rename_i t len parts
    split at hp
    · rename_i q hq
      split at hp
      · rename_i xs hxs
        obtain ⟨hu, hlen, hbig, hK⟩ := hp
        obtain ⟨ie, z, htu, hti, htz, hts, htb, hzs, hpos, hbpos⟩ := apT_spec hq
        obtain ⟨hl1, hspec⟩ := partsA_spec 0 _ xs hxs
        simp only [List.length_map, Array.length_toList] at hl1
        have hps : ∀ i p, (parts.toList.map fun p => (p.1, a.eval p.2))[i]? = some p → p.1 = 0 + i ∧ p.2.cells.size = q.2.1 ∧ ∃ x, xs[i]? = some x ∧ x.length = q.2.1 ∧ ∀ (j : Nat) (c : AV), x[j]? = some c → ∃ u, p.2.cells[j]? = some u ∧ u.oneCell' = true ∧ V w S γ ρ true c u := by
          intro i p hi
          rw [List.getElem?_map] at hi
          obtain ⟨p0, hp0, rfl⟩ := Option.map_eq_some_iff.1 hi
          have hil := (List.getElem?_eq_some_iff.1 hp0).1
          obtain ⟨x, hx⟩ : ∃ x, xs[i]? = some x := ⟨_, List.getElem?_eq_getElem (by rw [hl1]; simpa using hil)⟩
          obtain ⟨e1, e2, e3, e4, e5⟩ := hspec i (p0.1, un (evA st.env p0.2)) x (by rw [List.getElem?_map, hp0]; rfl) hx
          obtain ⟨hs, hv⟩ := acells_sound ((h.ev p0.2).un rfl (uoks_mem hu _ (List.mem_map.2 ⟨p0, List.mem_of_getElem? hp0, rfl⟩))) e2
          refine ⟨e1, by simp only [hs, e3], x, hx, e3, fun j c hj => ?_⟩
          obtain ⟨u, f1, f2, f3⟩ := all_one e4 hs hv j c hj
          exact ⟨u, f1, f2, f3.cl (List.all_eq_true.1 e5 c (List.mem_of_getElem? hj))⟩
        obtain ⟨ur, g1, g2, _, g4⟩ := fill_seq q.2.1 (parts.toList.map fun p => (p.1, a.eval p.2)) 0 ((Array.range (len * q.2.1)).map fun i => (if len * q.2.1 = 0 then #[] else z.cells)[i % (if len * q.2.1 = 0 then #[] else z.cells).size]!)
          (fun i p hi => ⟨(hps i p hi).1, (hps i p hi).2.1⟩) (by simp [← hlen, hl1])
        have hrun : (execOp a.eval ⟨dst, .buildSlice t len parts, ty, pos, after, guard⟩).run P w = .ok (.value (.slice (some ⟨w.heap.size, 0, none⟩) len len)) (w.alloc (.cells ur q.1)) := by
          have hparts : (parts.map fun (i, x) => (i, a.eval x)).toList = parts.toList.map fun p => (p.1, a.eval p.2) := by simp
          have hso : ∀ w : World, (sizeOf q.1).run P w = .ok q.2.1 w := fun w => by simp [sizeOf, typeInfo, hti, hts]
          have hzv : ∀ w : World, (zeroValue q.1).run P w = .ok z w := fun w => by simp [zeroValue, typeInfo, hti, htz]
          simp only [execOp, Instr.buildSlice, Sem.run_bind, run_underlying htu, Result.andThen_ok, hso]
          have hnb : ¬ (len * q.2.1 > 2 ^ 24) := by simp; omega
          simp only [if_neg hnb, Sem.run_pure, Result.andThen_ok, hparts]
          by_cases h0 : len * q.2.1 = 0
          · simp only [h0, if_true] at g1 ⊢
            simp only [Sem.run_pure, Result.andThen_ok, g1, newRow, Sem.run_bind]
            simp
          · simp only [h0, if_false] at g1 ⊢
            simp only [Sem.run_bind, hzv, Sem.run_pure, Result.andThen_ok, g1, newRow]
            simp
        refine ⟨_, _, hK, fun next Q hn => ?_⟩
        unfold Oper.wp
        rw [hrun]
        have hb : Below w.heap.size w (w.alloc (.cells ur q.1)) := (Below.refl _ _).alloc (Nat.le_refl _) _
        have hmax : len ≤ maxLen := by
          have : len * 1 ≤ len * q.2.1 := Nat.mul_le_mul_left _ hpos
          unfold maxLen; omega
        have husz : ur.size = len * q.2.1 := by rw [g2]; simp
        refine hn _ _ S γ (ρ ++ [_]) (h.newRow (rw_ := ⟨q.1, q.2.1, xs⟩) (v := .slice (some ⟨w.heap.size, 0, none⟩) len len) hb hpos (fun x hx => ?_) (fun g hg => ?_) (cells := ur.toList) ?_ (fun i x j c hi hj => ?_)) ?_
        · obtain ⟨i, hi⟩ := List.getElem?_of_mem hx
          have hil : i < xs.length := (List.getElem?_eq_some_iff.1 hi).1
          obtain ⟨p, hpp⟩ : ∃ p, (parts.toList.map fun p => (p.1, a.eval p.2))[i]? = some p := ⟨_, List.getElem?_eq_getElem (by simp; omega)⟩
          obtain ⟨_, _, x', hx', hxl, _⟩ := hps i p hpp
          rw [hi] at hx'; cases hx'; exact hxl
        · simp [Value.ownBlock] at hg; omega
        · rw [hlen]; exact World.ownsRow_lit w ur len hw0 hmax husz
        · have hil : i < xs.length := (List.getElem?_eq_some_iff.1 hi).1
          obtain ⟨p, hpp⟩ : ∃ p, (parts.toList.map fun p => (p.1, a.eval p.2))[i]? = some p := ⟨_, List.getElem?_eq_getElem (by simp; omega)⟩
          obtain ⟨_, _, x', hx', hxl, hcc⟩ := hps i p hpp
          rw [hi] at hx'; cases hx'
          obtain ⟨u, f1, f2, f3⟩ := hcc j c hj
          refine ⟨u, ?_, f2, f3⟩
          have := g4 i j p u hpp f1
          rw [Nat.zero_add] at this
          simpa using this
        · refine V.own (A0 := some ⟨w.heap.size, 0, none⟩) (n0 := len) (c0 := len) (by rw [← h.heap.nr]; simp) (fun _ => ⟨rfl, rfl⟩) (Nat.le_refl _) (by omega) hmax (fun _ => ⟨w.heap.size, rfl, by simp⟩)
      · cases hp
    · cases hp
  · -- makeSlice
    rename_i t nn cc
    split at hp
    · rename_i q z k m k' m' hq hz he1 he2
      obtain ⟨hmm, h0, hbytes, hz1, hK⟩ := hp
      rw [← hmm] at he2
      rw [hq] at hz
      obtain ⟨ie, zv, htu, hti, htz, hts, htb, hzs, hpos, hbpos⟩ := apT_spec hq
      obtain ⟨ie', zv', hi', hz', rfl⟩ := zeroL_spec hz
      rw [hti] at hi'; cases hi'
      rw [htz] at hz'; cases hz'
      have e1 := (h.ev nn); rw [he1] at e1
      have e2 := (h.ev cc); rw [he2] at e2
      have hb2 : ie.bytes * m.toNat ≤ 140737488355328 := by
        have : ((m.toNat : Nat) : Int) = m := Int.toNat_of_nonneg h0
        have h3 : ((ie.bytes * m.toNat : Nat) : Int) ≤ 140737488355328 := by
          rw [Int.natCast_mul, this, htb, Int.mul_comm]; exact hbytes
        omega
      have hmax : m.toNat ≤ maxLen := by
        have : 1 * m.toNat ≤ ie.bytes * m.toNat := Nat.mul_le_mul_right _ (by omega)
        unfold maxLen; omega
      obtain ⟨w', hrun, hown, hgrow⟩ := run_make_full (P := P) w w0.heap.size t q.1 ie zv q.2.1 htu hti htz hts k k' m.toNat (by omega) hmax hw0
      rw [Int.toNat_of_nonneg h0] at hrun
      refine ⟨_, _, hK, fun next Q hn => ?_⟩
      unfold Oper.wp
      have hex : (execOp a.eval ⟨dst, .makeSlice t nn cc, ty, pos, after, guard⟩).run P w = .ok (.value (.slice (some ⟨w.heap.size, 0, none⟩) m.toNat m.toNat)) w' := by
        simp only [execOp, e1.lit_eq, e2.lit_eq, Sem.run_bind, hrun, Result.andThen_ok, Sem.run_pure]
      rw [hex]
      have hb : Below w.heap.size w w' := (Below.refl _ _).grown hgrow (Nat.le_refl _) (fun k e => by cases e)
      refine hn _ _ S γ (ρ ++ [_]) (h.newRow (rw_ := ⟨q.1, q.2.1, List.replicate m.toNat (zv.cells.toList.map .lit)⟩) (v := .slice (some ⟨w.heap.size, 0, none⟩) m.toNat m.toNat) hb hpos (fun x hx => ?_) (fun g hg => ?_) (by simpa using hown) (fun i x j c hi hj => ?_)) ?_
      · rw [List.eq_of_mem_replicate hx]; simpa using hzs
      · simp [Value.ownBlock] at hg; omega
      · have hil := (List.getElem?_eq_some_iff.1 hi).1
        simp only [List.length_replicate] at hil
        simp only [List.getElem?_replicate, if_pos hil, Option.some.injEq] at hi
        subst hi
        rw [List.getElem?_map] at hj
        obtain ⟨y, hy, rfl⟩ := Option.map_eq_some_iff.1 hj
        have hjl : j < zv.cells.size := by have := (List.getElem?_eq_some_iff.1 hy).1; simpa using this
        refine ⟨y, ?_, List.all_eq_true.1 hz1 y (List.mem_of_getElem? hy), .lit⟩
        have := madeCells_get zv.cells (by omega) m.toNat i j hil hjl
        rw [hzs] at this
        rw [this]; simpa using hy
      · refine V.own (A0 := some ⟨w.heap.size, 0, none⟩) (n0 := m.toNat) (c0 := m.toNat) (by rw [← h.heap.nr]; simp) (fun _ => ⟨rfl, rfl⟩) (Nat.le_refl _) (by omega) hmax (fun _ => ⟨w.heap.size, rfl, by simp⟩)
    · cases hp
  · -- append
    rename_i args ts
    split at hp
    · rename_i s x t t' hargs hts
      obtain ⟨rfl, hus, hux, hp⟩ := hp
      split at hp
      · rename_i q y hq hy
        obtain ⟨hsz, hp⟩ := hp
        obtain ⟨ie, zv, htu, hti, htz, hts', htb, hzs, hpos, hbpos⟩ := apT_spec hq
        have hae : args = #[s, x] := by apply Array.ext'; simpa using hargs
        have hte : ts = #[t, t] := by apply Array.ext'; simpa using hts
        subst hae; subst hte
        have vx := (h.ev x).un rfl hux
        have vs := (h.ev s).un rfl hus
        obtain ⟨A, cx, hxv, hylen, hycell⟩ := elems_cells h.heap vx hy
        -- the cells of what is appended
        obtain ⟨news, hnl, hnews⟩ : ∃ news : List Value, news.length = y.2.length * q.2.1 ∧ ∀ i r j c, y.2[i]? = some r → r[j]? = some c → ∃ u, news[i * q.2.1 + j]? = some u ∧ u.oneCell' = true ∧ V w S γ ρ true c u ∧
            ∃ ad, A = some ad ∧ w.cell? (ad.add (i * q.2.1 + j)) = some u := by
          rcases hsz with hsz | hsz
          · by_cases hne : y.2 = []
            · exact ⟨[], by simp [hne], fun i r j c hi => by simp [hne] at hi⟩
            · obtain ⟨ad, hA, hc⟩ := hycell hne
              obtain ⟨L, hL1, hL2⟩ := flat_cells q.2.1 (fun i j => (w.cell? (ad.add (i * q.2.1 + j))).getD undef) y.2.length
              refine ⟨L, hL1, fun i r j c hi hj => ?_⟩
              have hil := (List.getElem?_eq_some_iff.1 hi).1
              have hjl : j < q.2.1 := by have := (List.getElem?_eq_some_iff.1 hj).1; rw [hylen r (List.mem_of_getElem? hi)] at this; omega
              obtain ⟨zz, f1, f2, f3⟩ := hc i r j c hi hj
              rw [hsz] at f1
              exact ⟨zz, by rw [hL2 i j hil hjl, f1]; rfl, f2, f3, ad, hA, f1⟩
          · exact ⟨[], by simp [hsz], fun i r j c hi => by simp [hsz] at hi⟩
        have hylen' : ∀ r ∈ y.2, r.length = q.2.1 := by
          intro r hr
          rcases hsz with hsz | hsz
          · rw [← hsz]; exact hylen r hr
          · rw [hsz] at hr; cases hr
        -- the append itself, onto whatever the call owns
        have app : ∀ (v : Value) (len : Nat) (cells : List Value), w.ownsRow w0.heap.size q.1 q.2.1 v len cells → (len + y.2.length) * q.2.2 ≤ 140737488355328 →
            ∃ v' w', (Builtin.append_ #[t, t] ty #[v, .slice A y.2.length cx]).run P w = .ok v' w' ∧ w'.ownsRow w0.heap.size q.1 q.2.1 v' (len + y.2.length) (cells ++ news) ∧ w.grownBy w' v.ownBlock ∧
              (v'.ownBlock = v.ownBlock ∨ v'.ownBlock = some w.heap.size) := by
          intro v len cells hown hbb
          have hmax : len + y.2.length ≤ maxLen := by
            have : (len + y.2.length) * 1 ≤ (len + y.2.length) * q.2.2 := Nat.mul_le_mul_left _ hbpos
            unfold maxLen; omega
          by_cases hne : y.2 = []
          · have hn0 : news = [] := List.eq_nil_of_length_eq_zero (by rw [hnl, hne]; simp)
            rw [hne, hn0]
            exact ⟨v, w, by simpa using run_append_nil w0.heap.size t ty q.1 ie q.2.1 htu hti v len cells hown cx A, by simpa using hown, World.grownBy.refl w _, .inl rfl⟩
          · obtain ⟨ad, hA, _⟩ := hycell hne
            subst hA
            obtain ⟨v', w', e1, e2, e3, _, e5⟩ := run_append_own_at (P := P) w w0.heap.size t ty q.1 ie zv q.2.1 q.2.2 htu hti htz hts' htb hzs hpos v len cells hown ad y.2.length cx news hnl
              (fun j u hj => by
                have hjl := (List.getElem?_eq_some_iff.1 hj).1
                rw [hnl] at hjl
                have hd : j = (j / q.2.1) * q.2.1 + j % q.2.1 := by rw [Nat.mul_comm]; exact (Nat.div_add_mod j q.2.1).symm
                have hm := Nat.mod_lt j hpos
                have hil : j / q.2.1 < y.2.length := Nat.div_lt_of_lt_mul (by rw [Nat.mul_comm]; exact hjl)
                obtain ⟨r, hr⟩ : ∃ r, y.2[j / q.2.1]? = some r := ⟨_, List.getElem?_eq_getElem hil⟩
                obtain ⟨c, hc⟩ : ∃ c, r[j % q.2.1]? = some c := ⟨_, List.getElem?_eq_getElem (by rw [hylen' r (List.mem_of_getElem? hr)]; exact hm)⟩
                obtain ⟨u', f1, _, _, ad', hA', f4⟩ := hnews _ r _ c hr hc
                cases hA'
                rw [← hd] at f1 f4
                rw [hj] at f1; cases f1
                exact f4)
              (fun u hu => by
                obtain ⟨j, hj⟩ := List.getElem?_of_mem hu
                have hjl := (List.getElem?_eq_some_iff.1 hj).1
                rw [hnl] at hjl
                have hd : j = (j / q.2.1) * q.2.1 + j % q.2.1 := by rw [Nat.mul_comm]; exact (Nat.div_add_mod j q.2.1).symm
                have hm := Nat.mod_lt j hpos
                have hil : j / q.2.1 < y.2.length := Nat.div_lt_of_lt_mul (by rw [Nat.mul_comm]; exact hjl)
                obtain ⟨r, hr⟩ : ∃ r, y.2[j / q.2.1]? = some r := ⟨_, List.getElem?_eq_getElem hil⟩
                obtain ⟨c, hc⟩ : ∃ c, r[j % q.2.1]? = some c := ⟨_, List.getElem?_eq_getElem (by rw [hylen' r (List.mem_of_getElem? hr)]; exact hm)⟩
                obtain ⟨u', f1, f2, _⟩ := hnews _ r _ c hr hc
                rw [← hd, hj] at f1; cases f1
                exact f2) hmax hbb hw0
            exact ⟨v', w', e1, e2, e3, e5⟩
        have hex : ∀ (v' : Value) (w' : World), (Builtin.append_ #[t, t] ty #[a.eval s, .slice A y.2.length cx]).run P w = .ok v' w' →
            (execOp a.eval ⟨dst, .call ⟨.builtin .append, #[s, x], #[t, t]⟩, ty, pos, after, guard⟩).run P w = .ok (.value v') w' := by
          intro v' w' hr
          simp only [execOp, resolve, invoke, Sem.run_bind, Sem.run_pure, Result.andThen_ok, builtin, List.map_toArray, List.map_cons, List.map_nil, hxv, hr]
        split at hp
        · rename_i r sz off len hsv
          split at hp
          · rename_i rw_ hg
            obtain ⟨rfl, rfl, hty, hbb, hK⟩ := hp
            obtain ⟨hrow, hszr⟩ := getRow_spec hg
            rw [hsv] at vs
            refine ⟨_, _, hK, fun next Q hn => ?_⟩
            generalize hse : a.eval s = us at vs hex
            cases vs with
            | own hρ h0 hlen h1 hm hA =>
              rename_i As c A0 n0 c0
              obtain ⟨rfl, rfl⟩ := h0 rfl
              obtain ⟨_, hlenz, hnS, cells, hown, hcv⟩ := h.heap.row r rw_ _ hrow hρ
              have hn0 : n0 = rw_.elems.length := by
                rcases hown.2 with ⟨e, hz0⟩ | ⟨g, cap, cur, e, _⟩
                · injection e with _ e2 _; omega
                · injection e with _ e2 _
              rw [hty, hszr] at hown
              have hown2 := own_take hown (k := len) (by omega)
              obtain ⟨v', w', e1, e2, e3, e4⟩ := app _ len _ hown2 hbb
              unfold Oper.wp
              rw [hex v' w' e1]
              have hob : (Value.slice As len c).ownBlock = (Value.slice As n0 c).ownBlock := by cases As <;> rfl
              rw [hob] at e3 e4
              have hBg : ∀ k, (Value.slice As n0 c).ownBlock = some k → w0.heap.size ≤ k := fun k hk => (hown.lt k hk).1
              have hbelow : Below w0.heap.size w0 w' := h.below.grown e3 hw0 hBg
              have hstab : ∀ p : Addr, S p.block → ∀ x, w.cell? p = some x → w'.cell? p = some x := fun p hp x hx => by
                rw [World.cell?_of_block (e3.block p.block (h.sw _ hp) (fun e => hnS p.block e.symm hp))]; exact hx
              have hkill : ∀ {b : Bool} {a : AV} {u : Value}, V w S γ ρ b a u → V w S γ (ρ.set r v') b (a.kill r) u := fun hv =>
                hv.kill r _ fun k g hk hg => by rw [List.getElem?_set_ne (fun e => hk e.symm)]; exact hg
              have htl : (cells.take (len * q.2.1)).length = len * q.2.1 := hown2.1
              have hheap := h.heap.setRow (w' := w') (rw' := { rw_ with elems := rw_.elems.take len ++ y.2 }) (v' := v') hrow hρ h.sw e3 e4 (by rw [hszr]; exact hpos)
                (fun x hx => by
                  rcases List.mem_append.1 hx with hx | hx
                  · exact hlenz x (List.mem_of_mem_take hx)
                  · rw [hszr]; exact hylen' x hx) (cells := cells.take (len * q.2.1) ++ news)
                (by
                  have : (rw_.elems.take len ++ y.2).length = len + y.2.length := by simp; omega
                  simp only [this, hty, hszr]; exact e2)
                (fun i x j c hi hj => by
                  simp only at hi ⊢
                  rw [hszr]
                  have hel : (rw_.elems.take len).length = len := by simp; omega
                  have hjl : j < q.2.1 := by
                    have hxl : x.length = q.2.1 := by
                      rcases List.mem_append.1 (List.mem_of_getElem? hi) with hx | hx
                      · rw [← hszr]; exact hlenz x (List.mem_of_mem_take hx)
                      · exact hylen' x hx
                    have := (List.getElem?_eq_some_iff.1 hj).1; omega
                  by_cases hil : i < len
                  · rw [List.getElem?_append_left (by omega), List.getElem?_take, if_pos hil] at hi
                    obtain ⟨u, f1, f2, f3⟩ := hcv i x j c hi hj
                    rw [hszr] at f1
                    have hb : i * q.2.1 + j < len * q.2.1 := by
                      have : (i + 1) * q.2.1 ≤ len * q.2.1 := Nat.mul_le_mul_right _ hil
                      rw [Nat.add_mul] at this; omega
                    exact ⟨u, by rw [List.getElem?_append_left (by omega), List.getElem?_take, if_pos hb]; exact f1, f2, f3⟩
                  · rw [List.getElem?_append_right (by omega), hel] at hi
                    obtain ⟨u, f1, f2, f3, _⟩ := hnews _ x j c hi hj
                    refine ⟨u, ?_, f2, f3⟩
                    have hge : len * q.2.1 ≤ i * q.2.1 := Nat.mul_le_mul_right _ (by omega)
                    rw [List.getElem?_append_right (by omega), htl]
                    rw [show i * q.2.1 + j - len * q.2.1 = (i - len) * q.2.1 + j by rw [Nat.sub_mul]; omega]
                    exact f1)
                (st.boxes.map (List.map (AV.kill r))) (by simp)
                (fun k cs' hk => by
                  rw [List.getElem?_map] at hk
                  obtain ⟨cs, hcs, rfl⟩ := Option.map_eq_some_iff.1 hk
                  refine ⟨cs, hcs, by simp, fun j c' c u h1 h2 hv => ?_⟩
                  rw [List.getElem?_map, h2] at h1; cases h1
                  exact hkill hv)
              have hlk : ∀ k, KeepL k w S → KeepL k w' S := fun _ hk => hk.other (fun _ hr => own_cells_at hown hr) (fun k hk hne => e3.block k hk hne)
              refine hn v' w' S γ (ρ.set r v') ⟨hbelow, ⟨h.s0.1, hlk _ h.s0.2⟩, fun b hb => Nat.lt_of_lt_of_le (h.sw b hb) e3.size, hheap, h.size, h.defs.map hlk, fun s' => ?_⟩ ?_
              · rcases eget_kill r s' st.env with e | e
                · simp only [e]
                  exact (hkill (h.env s')).mono hstab (fun _ h => h) (fun _ _ h => h) (fun _ _ h => h)
                · simp only [e]; exact .any
              · have hrl : r < ρ.length := (List.getElem?_eq_some_iff.1 hρ).1
                have hmax : len + y.2.length ≤ maxLen := by
                  have : (len + y.2.length) * 1 ≤ (len + y.2.length) * q.2.2 := Nat.mul_le_mul_left _ hbpos
                  unfold maxLen; omega
                rcases e2.2 with ⟨rfl, hz0⟩ | ⟨g, cap, cur, rfl, hg1, hh, hn1, hcap, _⟩
                · rw [hz0]
                  exact .own (A0 := none) (n0 := 0) (c0 := 0) (by rw [List.getElem?_set_self hrl]) (fun _ => ⟨rfl, rfl⟩) (Nat.le_refl _) (by omega) (by unfold maxLen; omega) (fun h => by omega)
                · exact .own (A0 := some ⟨g, 0, none⟩) (n0 := len + y.2.length) (c0 := cap) (by rw [List.getElem?_set_self hrl]) (fun _ => ⟨rfl, rfl⟩) hn1 (by omega) hcap (fun _ => ⟨g, rfl, by simp⟩)
          · cases hp
        · rename_i hsv
          obtain ⟨hbb, hK⟩ := hp
          rw [hsv] at vs
          refine ⟨_, _, hK, fun next Q hn => ?_⟩
          have hse := vs.lit_eq
          obtain ⟨v', w', e1, e2, e3, e4⟩ := app _ 0 [] (World.ownsRow_nil w w0.heap.size q.1 q.2.1) (by simpa using hbb)
          rw [Nat.zero_add, List.nil_append] at e2
          unfold Oper.wp
          rw [hse] at hex
          rw [hex v' w' e1]
          have hb : Below w.heap.size w w' := (Below.refl _ _).grown e3 (Nat.le_refl _) (fun k e => by simp [Value.ownBlock] at e)
          have hfr : ∀ g, v'.ownBlock = some g → w.heap.size ≤ g := fun g hg => by
            rcases e4 with e | e
            · rw [hg] at e; simp [Value.ownBlock] at e
            · rw [hg] at e; cases e; exact Nat.le_refl _
          refine hn _ _ S γ (ρ ++ [v']) (h.newRow (rw_ := ⟨q.1, q.2.1, y.2⟩) (v := v') hb hpos hylen' hfr e2 (fun i x j c hi hj => ?_)) ?_
          · obtain ⟨u, f1, f2, f3, _⟩ := hnews i x j c hi hj
            exact ⟨u, f1, f2, f3⟩
          · have hlast : (ρ ++ [v'])[st.rows.length]? = some v' := by rw [← h.heap.nr]; simp
            rcases e2.2 with ⟨rfl, hz0⟩ | ⟨g, cap, cur, rfl, hg1, hh, hn1, hcap, _⟩
            · rw [hz0]
              exact .own (A0 := none) (n0 := 0) (c0 := 0) hlast (fun _ => ⟨rfl, rfl⟩) (Nat.le_refl _) (by omega) (by unfold maxLen; omega) (fun h => by omega)
            · exact .own (A0 := some ⟨g, 0, none⟩) (n0 := y.2.length) (c0 := cap) hlast (fun _ => ⟨rfl, rfl⟩) hn1 (by omega) hcap (fun _ => ⟨g, rfl, by simp⟩)
        · cases hp
      · cases hp
    · cases hp
  · exact pure_case hp
end Go.AL
namespace Go.AL
open Go.RowKit
set_option linter.unusedSimpArgs false
set_option linter.unusedVariables false
variable {P : Program}
/-! ### memory that is made and never written again: where an operation is guarded, or its order is drawn -/
def amem (P : Program) (ev : Operand → AV) (op : Op) (K : AV → Prop) : Prop :=
  match op with
  | .buildSlice t len parts =>
    match apT P t with
    | some q => match partsA q.2.1 0 (parts.toList.map fun p => (p.1, un (ev p.2))) with
      | some xs => uoks true ev (parts.toList.map (·.2)) ∧ xs.length = len ∧ len * q.2.1 ≤ 16777216 ∧ K (.ro q.2.1 xs)
      | none => False
    | none => False
  | .box t x =>
    match acells (un (ev x)) with
    | some cs => uok true (ev x) ∧ cs.all AV.one = true ∧ cs.all AV.cl = true ∧ K (.rop cs)
    | none => False
  | .makeSlice t n c =>
    match apT P t, zeroL P (match apT P t with | some q => q.1 | none => 0), ev n, ev c with
    | some q, some z, .lit (.int _ m), .lit (.int _ m') => m = m' ∧ 0 ≤ m ∧ m * q.2.2 ≤ 140737488355328 ∧ (z.all fun v => v.oneCell') = true ∧ K (.ro q.2.1 (List.replicate m.toNat (z.map .lit)))
    | _, _, _, _ => False
  | _ => False
theorem amem_sound {ev : Operand → AV} {a : Act} {w : World} {S : Nat → Prop} {γ : List Nat} {ρ : List Value}
    (hsw : ∀ b, S b → b < w.heap.size) (hev : ∀ x, V w S γ ρ false (ev x) (a.eval x)) {o : Oper} {K : AV → Prop} (hp : amem P ev o.op K) :
    ∃ v, K v ∧ ∀ (next : Act → World → Prop) (Q : Exit → Act → World → Prop), (∀ u w' S', Below w.heap.size w w' → (∀ g, S g → S' g) → (∀ g, S' g → S g ∨ (w.heap.size ≤ g ∧ g < w'.heap.size)) →
      V w' S' γ ρ false v u → next (a.put o.dst u) w') → o.wp P a w next Q := by
  obtain ⟨dst, op, ty, pos, after, guard⟩ := o
  simp only at hp
  have fresh : ∀ (us : Array Value) (t : TypeId) (k : Nat), (w.alloc (.cells us t)).cell? ⟨w.heap.size, k, none⟩ = us[k]? := by
    intro us t k
    rw [cell_of_row (w.alloc (.cells us t)) w.heap.size k us t (0, 0) (by show (w.heap.push (.cells us t))[w.heap.size]? = _; simp)]
  have mono : ∀ (us : Array Value) (t : TypeId) {b : Bool} {x : AV} {u : Value}, V w S γ ρ b x u → V (w.alloc (.cells us t)) (fun g => S g ∨ g = w.heap.size) γ ρ b x u := fun us t _ _ _ hv =>
    hv.mono (fun p hp x hx => by rw [((Below.refl w.heap.size w).alloc (Nat.le_refl _) (.cells us t)).cell (hsw _ hp)]; exact hx) (fun _ h => .inl h) (fun _ _ h => h) (fun _ _ h => h)
  have hsz : ∀ (us : Array Value) (t : TypeId), w.heap.size < (w.alloc (.cells us t)).heap.size := fun us t => by simp
  unfold amem at hp
  split at hp
  · rename_i t len parts
    split at hp
    · rename_i q hq
      split at hp
      · rename_i xs hxs
        obtain ⟨hu, hlen, hbig, hK⟩ := hp
        obtain ⟨ie, z, htu, hti, htz, hts, htb, hzs, hpos, hbpos⟩ := apT_spec hq
        obtain ⟨hl1, hspec⟩ := partsA_spec 0 _ xs hxs
        simp only [List.length_map, Array.length_toList] at hl1
        have hps : ∀ i p, (parts.toList.map fun p => (p.1, a.eval p.2))[i]? = some p → p.1 = 0 + i ∧ p.2.cells.size = q.2.1 ∧ ∃ x, xs[i]? = some x ∧ x.length = q.2.1 ∧ ∀ (j : Nat) (c : AV), x[j]? = some c → ∃ u, p.2.cells[j]? = some u ∧ u.oneCell' = true ∧ V w S γ ρ true c u := by
          intro i p hi
          rw [List.getElem?_map] at hi
          obtain ⟨p0, hp0, rfl⟩ := Option.map_eq_some_iff.1 hi
          have hil := (List.getElem?_eq_some_iff.1 hp0).1
          obtain ⟨x, hx⟩ : ∃ x, xs[i]? = some x := ⟨_, List.getElem?_eq_getElem (by rw [hl1]; simpa using hil)⟩
          obtain ⟨e1, e2, e3, e4, e5⟩ := hspec i (p0.1, un (ev p0.2)) x (by rw [List.getElem?_map, hp0]; rfl) hx
          obtain ⟨hs, hv⟩ := acells_sound ((hev p0.2).un rfl (uoks_mem hu _ (List.mem_map.2 ⟨p0, List.mem_of_getElem? hp0, rfl⟩))) e2
          refine ⟨e1, by simp only [hs, e3], x, hx, e3, fun j c hj => ?_⟩
          obtain ⟨u, f1, f2, f3⟩ := all_one e4 hs hv j c hj
          exact ⟨u, f1, f2, f3.cl (List.all_eq_true.1 e5 c (List.mem_of_getElem? hj))⟩
        obtain ⟨ur, g1, g2, _, g4⟩ := fill_seq q.2.1 (parts.toList.map fun p => (p.1, a.eval p.2)) 0 ((Array.range (len * q.2.1)).map fun i => (if len * q.2.1 = 0 then #[] else z.cells)[i % (if len * q.2.1 = 0 then #[] else z.cells).size]!)
          (fun i p hi => ⟨(hps i p hi).1, (hps i p hi).2.1⟩) (by simp [← hlen, hl1])
        have hrun : (execOp a.eval ⟨dst, .buildSlice t len parts, ty, pos, after, guard⟩).run P w = .ok (.value (.slice (some ⟨w.heap.size, 0, none⟩) len len)) (w.alloc (.cells ur q.1)) := by
          have hparts : (parts.map fun (i, x) => (i, a.eval x)).toList = parts.toList.map fun p => (p.1, a.eval p.2) := by simp
          have hso : ∀ w : World, (sizeOf q.1).run P w = .ok q.2.1 w := fun w => by simp [sizeOf, typeInfo, hti, hts]
          have hzv : ∀ w : World, (zeroValue q.1).run P w = .ok z w := fun w => by simp [zeroValue, typeInfo, hti, htz]
          simp only [execOp, Instr.buildSlice, Sem.run_bind, run_underlying htu, Result.andThen_ok, hso]
          have hnb : ¬ (len * q.2.1 > 2 ^ 24) := by simp; omega
          simp only [if_neg hnb, Sem.run_pure, Result.andThen_ok, hparts]
          by_cases h0 : len * q.2.1 = 0
          · simp only [h0, if_true] at g1 ⊢
            simp only [Sem.run_pure, Result.andThen_ok, g1, newRow, Sem.run_bind]
            simp
          · simp only [h0, if_false] at g1 ⊢
            simp only [Sem.run_bind, hzv, Sem.run_pure, Result.andThen_ok, g1, newRow]
            simp
        have husz : ur.size = len * q.2.1 := by rw [g2]; simp
        have hmax : len ≤ maxLen := by
          have : len * 1 ≤ len * q.2.1 := Nat.mul_le_mul_left _ hpos
          unfold maxLen; omega
        have cellAt : ∀ (i : Nat) (x : List AV) (j : Nat) (c : AV), xs[i]? = some x → x[j]? = some c → ∃ u, ur[i * q.2.1 + j]? = some u ∧ u.oneCell' = true ∧ V w S γ ρ true c u := by
          intro i x j c hi hj
          have hil : i < xs.length := (List.getElem?_eq_some_iff.1 hi).1
          obtain ⟨p, hpp⟩ : ∃ p, (parts.toList.map fun p => (p.1, a.eval p.2))[i]? = some p := ⟨_, List.getElem?_eq_getElem (by simp; omega)⟩
          obtain ⟨_, _, x', hx', hxl, hcc⟩ := hps i p hpp
          rw [hi] at hx'; cases hx'
          obtain ⟨u, f1, f2, f3⟩ := hcc j c hj
          refine ⟨u, ?_, f2, f3⟩
          have := g4 i j p u hpp f1
          rw [Nat.zero_add] at this
          simpa using this
        refine ⟨_, hK, fun next Q hn => ?_⟩
        unfold Oper.wp
        rw [hrun]
        refine hn _ _ (fun g => S g ∨ g = w.heap.size) ((Below.refl _ _).alloc (Nat.le_refl _) _) (fun _ h => .inl h) (fun g hg => hg.imp id (fun e => by subst e; exact ⟨Nat.le_refl _, hsz _ _⟩)) ?_
        refine .ro (fun i j => ur.getD (i * q.2.1 + j) undef) hlen (Nat.le_refl _) hmax (fun x hx => ?_) (fun _ => ⟨_, rfl, .inr rfl, fun i x j c hi hj => ?_⟩) (fun i x j c hi hj => ?_)
        · obtain ⟨i, hi⟩ := List.getElem?_of_mem hx
          have hil : i < xs.length := (List.getElem?_eq_some_iff.1 hi).1
          obtain ⟨p, hpp⟩ : ∃ p, (parts.toList.map fun p => (p.1, a.eval p.2))[i]? = some p := ⟨_, List.getElem?_eq_getElem (by simp; omega)⟩
          obtain ⟨_, _, x', hx', hxl, _⟩ := hps i p hpp
          rw [hi] at hx'; cases hx'; exact hxl
        · obtain ⟨u, f1, f2, _⟩ := cellAt i x j c hi hj
          have : ur.getD (i * q.2.1 + j) undef = u := by rw [Array.getD_eq_getD_getElem?, f1]; rfl
          rw [this, addr_add, Nat.zero_add, fresh, f1]
          exact ⟨rfl, f2⟩
        · obtain ⟨u, f1, f2, f3⟩ := cellAt i x j c hi hj
          have : ur.getD (i * q.2.1 + j) undef = u := by rw [Array.getD_eq_getD_getElem?, f1]; rfl
          rw [this]
          exact mono _ _ f3
      · cases hp
    · cases hp
  · rename_i t x
    split at hp
    · rename_i cs hcs
      obtain ⟨hu, h1, h2, hK⟩ := hp
      obtain ⟨hs, hv⟩ := acells_sound ((hev x).un rfl hu) hcs
      have hall := all_one h1 hs hv
      have hrun : (execOp a.eval ⟨dst, .box t x, ty, pos, after, guard⟩).run P w = .ok (.value (.pointer (some ⟨w.heap.size, 0, none⟩))) (w.alloc (.cells (a.eval x).cells t)) := by
        simp [execOp, Instr.box, newVar, newRow]
      refine ⟨_, hK, fun next Q hn => ?_⟩
      unfold Oper.wp
      rw [hrun]
      refine hn _ _ (fun g => S g ∨ g = w.heap.size) ((Below.refl _ _).alloc (Nat.le_refl _) _) (fun _ h => .inl h) (fun g hg => hg.imp id (fun e => by subst e; exact ⟨Nat.le_refl _, hsz _ _⟩)) ?_
      refine .rop (fun j => (a.eval x).cells.getD j undef) (.inr rfl) (fun j c hj => ?_) (fun j c hj => ?_)
      · obtain ⟨u, f1, _, _⟩ := hall j c hj
        have : (a.eval x).cells.getD j undef = u := by rw [Array.getD_eq_getD_getElem?, f1]; rfl
        rw [this, addr_add, Nat.zero_add, fresh, f1]
      · obtain ⟨u, f1, _, f3⟩ := hall j c hj
        have : (a.eval x).cells.getD j undef = u := by rw [Array.getD_eq_getD_getElem?, f1]; rfl
        rw [this]
        exact mono _ _ (f3.cl (List.all_eq_true.1 h2 c (List.mem_of_getElem? hj)))
    · cases hp
  · rename_i t nn cc
    split at hp
    · rename_i q z k m k' m' hq hz he1 he2
      obtain ⟨hmm, h0, hbytes, hz1, hK⟩ := hp
      rw [← hmm] at he2
      rw [hq] at hz
      obtain ⟨ie, zv, htu, hti, htz, hts, htb, hzs, hpos, hbpos⟩ := apT_spec hq
      obtain ⟨ie', zv', hi', hz', rfl⟩ := zeroL_spec hz
      rw [hti] at hi'; cases hi'
      rw [htz] at hz'; cases hz'
      have e1 := (hev nn); rw [he1] at e1
      have e2 := (hev cc); rw [he2] at e2
      have hb2 : ie.bytes * m.toNat ≤ 140737488355328 := by
        have : ((m.toNat : Nat) : Int) = m := Int.toNat_of_nonneg h0
        have h3 : ((ie.bytes * m.toNat : Nat) : Int) ≤ 140737488355328 := by
          rw [Int.natCast_mul, this, htb, Int.mul_comm]; exact hbytes
        omega
      have hmax : m.toNat ≤ maxLen := by
        have : 1 * m.toNat ≤ ie.bytes * m.toNat := Nat.mul_le_mul_right _ (by omega)
        unfold maxLen; omega
      obtain ⟨w', hrun, hown, hgrow⟩ := run_make_full (P := P) w w.heap.size t q.1 ie zv q.2.1 htu hti htz hts k k' m.toNat (by omega) hmax (Nat.le_refl _)
      rw [Int.toNat_of_nonneg h0] at hrun
      refine ⟨_, hK, fun next Q hn => ?_⟩
      unfold Oper.wp
      have hex : (execOp a.eval ⟨dst, .makeSlice t nn cc, ty, pos, after, guard⟩).run P w = .ok (.value (.slice (some ⟨w.heap.size, 0, none⟩) m.toNat m.toNat)) w' := by
        simp only [execOp, e1.lit_eq, e2.lit_eq, Sem.run_bind, hrun, Result.andThen_ok, Sem.run_pure]
      rw [hex]
      have hb : Below w.heap.size w w' := (Below.refl _ _).grown hgrow (Nat.le_refl _) (fun k e => by cases e)
      have hlt := (hown.lt w.heap.size rfl).2
      refine hn _ _ (fun g => S g ∨ g = w.heap.size) hb (fun _ h => .inl h) (fun g hg => hg.imp id (fun e => by subst e; exact ⟨Nat.le_refl _, hlt⟩)) ?_
      refine .ro (fun i j => zv.cells.getD j undef) (by simp) (Nat.le_refl _) hmax (fun x hx => ?_) (fun _ => ⟨_, rfl, .inr rfl, fun i x j c hi hj => ?_⟩) (fun i x j c hi hj => ?_)
      · rw [List.eq_of_mem_replicate hx]; simpa using hzs
      · have hil := (List.getElem?_eq_some_iff.1 hi).1
        simp only [List.length_replicate] at hil
        simp only [List.getElem?_replicate, if_pos hil, Option.some.injEq] at hi
        subst hi
        rw [List.getElem?_map] at hj
        obtain ⟨y, hy, rfl⟩ := Option.map_eq_some_iff.1 hj
        have hjl : j < zv.cells.size := by have := (List.getElem?_eq_some_iff.1 hy).1; simpa using this
        have hyy : zv.cells.getD j undef = y := by
          rw [Array.getD_eq_getD_getElem?]
          rw [show zv.cells[j]? = some y by simpa using hy]; rfl
        rw [hyy]
        refine ⟨?_, List.all_eq_true.1 hz1 y (List.mem_of_getElem? hy)⟩
        have := madeCells_get zv.cells (by omega) m.toNat i j hil hjl
        rw [hzs] at this
        have h4 := own_cell hown (this.trans (by simpa using hy))
        rw [addr_add, Nat.zero_add]
        exact h4
      · have hil := (List.getElem?_eq_some_iff.1 hi).1
        simp only [List.length_replicate] at hil
        simp only [List.getElem?_replicate, if_pos hil, Option.some.injEq] at hi
        subst hi
        rw [List.getElem?_map] at hj
        obtain ⟨y, hy, rfl⟩ := Option.map_eq_some_iff.1 hj
        have hyy : zv.cells.getD j undef = y := by
          rw [Array.getD_eq_getD_getElem?]
          rw [show zv.cells[j]? = some y by simpa using hy]; rfl
        rw [hyy]
        exact .lit
    · cases hp
  · cases hp
end Go.AL
