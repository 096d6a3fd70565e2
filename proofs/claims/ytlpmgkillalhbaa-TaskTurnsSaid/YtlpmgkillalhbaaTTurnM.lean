/-
  Turns: which inputs come by turns, in plain Lean: no program in sight.
-/
import Derived.Test.YtlpmgkillalhbaaTAlv
namespace Go.Proofs.Ytlpmgkillalhbaa
open Go.AL
set_option linter.unusedSimpArgs false
set_option linter.unusedVariables false

/-- what holds after some turns: so many turns, how far they went, the turn now, what came -/
structure TurI (ins : List Que) (s0 : Nat) (i d : Nat) (tu : Int) (c : List Bool) : Prop where
  hi : i ≤ ins.length
  hd : i ≤ d
  t0 : 0 ≤ tu
  t1 : tu < 20
  hs : startQ tu ins = (s0 + d) % ins.length
  hc : c.length = ins.length
  h1 : ∀ k, c.getD k false = true → hasQ ins k = true
  h2 : ∀ j, j < d → hasQ ins ((s0 + j) % ins.length) = true → c.getD ((s0 + j) % ins.length) false = true

theorem startQ_lt {tu : Int} {ins : List Que} (h0 : 0 ≤ tu) (h : 0 < ins.length) : startQ tu ins < ins.length := by
  unfold startQ
  split <;> omega
theorem turI_start {ins : List Que} {tu : Int} (h0 : 0 ≤ tu) (h1 : tu < 20) : TurI ins (startQ tu ins) 0 0 tu (List.replicate ins.length false) := by
  refine ⟨Nat.zero_le _, Nat.le_refl _, h0, h1, ?_, by simp, fun k hk => ?_, fun j hj => by omega⟩
  · rcases Nat.eq_zero_or_pos ins.length with h | h
    · rw [h]; simp
    · rw [Nat.add_zero, Nat.mod_eq_of_lt (startQ_lt h0 h)]
  · rw [List.getD_eq_getElem?_getD, List.getElem?_replicate] at hk
    split at hk <;> simp at hk
theorem firstQ_where {tu : Int} {ins : List Que} (h : 0 ≤ firstQ tu ins) : ∃ j, j < ins.length ∧ firstQ tu ins = (firstAt (startQ tu ins) ins j : Int) ∧ hasQ ins (firstAt (startQ tu ins) ins j) = true ∧ ∀ j', j' < j → hasQ ins (firstAt (startQ tu ins) ins j') = false := by
  unfold firstQ at h ⊢
  rcases firstIx_spec (if (ins.length : Int) ≤ tu then 0 else tu.toNat) ins ins.length 0 with ⟨h1, _⟩ | ⟨j, _, h2, h3, h4, h5⟩
  · rw [h1] at h
    omega
  · exact ⟨j, by omega, h5, h3, fun j' hj => h4 j' (Nat.zero_le _) hj⟩
theorem firstQ_no {tu : Int} {ins : List Que} (h0 : 0 ≤ tu) (h : firstQ tu ins < 0) (k : Nat) : hasQ ins k = false := by
  by_cases hk : k < ins.length
  · unfold firstQ at h
    rcases firstIx_spec (if (ins.length : Int) ≤ tu then 0 else tu.toNat) ins ins.length 0 with ⟨_, h1⟩ | ⟨j, _, _, _, _, h5⟩
    · have hs : startQ tu ins < ins.length := startQ_lt h0 (by omega)
      unfold startQ at hs
      generalize (if (ins.length : Int) ≤ tu then 0 else tu.toNat) = s at *
      have := h1 ((k + (ins.length - s)) % ins.length) (Nat.zero_le _) (by have := Nat.mod_lt (k + (ins.length - s)) (show 0 < ins.length by omega); omega)
      unfold firstAt at this
      rw [Nat.add_mod_mod] at this
      rw [show s + (k + (ins.length - s)) = k + ins.length by omega, Nat.add_mod_right, Nat.mod_eq_of_lt hk] at this
      exact this
    · rw [h5] at h
      omega
  · unfold hasQ
    rw [List.getD_eq_getElem?_getD, List.getElem?_eq_none (by omega)]
    rfl
theorem getD_set_b {c : List Bool} {k j : Nat} {b : Bool} : (c.set k b).getD j false = if j = k ∧ k < c.length then b else c.getD j false := by
  rw [List.getD_eq_getElem?_getD, List.getD_eq_getElem?_getD, List.getElem?_set]
  by_cases h : k = j
  · subst h
    by_cases h2 : k < c.length
    · rw [if_pos rfl, if_pos h2, if_pos ⟨rfl, h2⟩]; rfl
    · rw [if_pos rfl, if_neg h2, if_neg (fun h => h2 h.2), List.getElem?_eq_none (by omega)]
  · rw [if_neg h, if_neg (fun h2 => h h2.1.symm)]
/-- one turn -/
theorem turI_step {ins : List Que} {s0 i d : Nat} {tu : Int} {c : List Bool} (I : TurI ins s0 i d tu c) (hi : i < ins.length) (hn : ins.length ≤ 4) {K : Nat} (hK : firstQ tu ins = (K : Int)) :
    K < ins.length ∧ hasQ ins K = true ∧ ∃ d', TurI ins s0 (i + 1) d' (((K + 1) % ins.length : Nat) : Int) (c.set K true) := by
  obtain ⟨j, hj, e1, e2, e3⟩ := firstQ_where (tu := tu) (ins := ins) (by omega)
  have hKe : K = firstAt (startQ tu ins) ins j := by omega
  rw [← hKe] at e2
  have hpos : 0 < ins.length := by omega
  have hKl : K < ins.length := by rw [hKe]; exact Nat.mod_lt _ hpos
  have hKm : ∀ m, firstAt (startQ tu ins) ins m = (s0 + (d + m)) % ins.length := fun m => by
    unfold firstAt
    rw [I.hs, Nat.mod_add_mod, Nat.add_assoc]
  refine ⟨hKl, e2, d + j + 1, ?_⟩
  have hm := Nat.mod_lt (K + 1) hpos
  refine ⟨by omega, by have := I.hd; omega, by omega, by omega, ?_, by rw [List.length_set]; exact I.hc, fun k hk => ?_, fun j' hj' hh => ?_⟩
  · unfold startQ
    rw [if_neg (by omega), Int.toNat_natCast, hKe, hKm, Nat.mod_add_mod]
    rw [show s0 + (d + j) + 1 = s0 + (d + j + 1) by omega]
  · rw [getD_set_b] at hk
    split at hk
    · rename_i h
      rw [h.1]; exact e2
    · exact I.h1 k hk
  · rw [getD_set_b]
    split
    · rfl
    · rename_i h
      by_cases h1 : j' < d
      · exact I.h2 j' h1 hh
      · obtain ⟨m, rfl⟩ : ∃ m, j' = d + m := ⟨j' - d, by omega⟩
        by_cases h3 : m = j
        · subst h3
          exact absurd ⟨by rw [hKe, hKm], by rw [I.hc]; exact hKl⟩ h
        · have := e3 m (by omega)
          rw [hKm, hh] at this
          cases this
/-- after as many turns as there are inputs -/
theorem turI_end {ins : List Que} {s0 i d : Nat} {tu : Int} {c : List Bool} (I : TurI ins s0 i d tu c) (h : i = ins.length) (hs0 : 0 < ins.length → s0 < ins.length) (k : Nat) (hk : k < ins.length) : c.getD k false = hasQ ins k := by
  cases hh : hasQ ins k with
  | false =>
    cases hc : c.getD k false with
    | false => rfl
    | true => rw [I.h1 k hc] at hh; cases hh
  | true =>
    have hs := hs0 (by omega)
    have hlt := Nat.mod_lt (k + (ins.length - s0)) (show 0 < ins.length by omega)
    have e : (s0 + (k + (ins.length - s0)) % ins.length) % ins.length = k := by
      rw [Nat.add_mod_mod, show s0 + (k + (ins.length - s0)) = k + ins.length by omega, Nat.add_mod_right, Nat.mod_eq_of_lt hk]
    have := I.h2 ((k + (ins.length - s0)) % ins.length) (by have := I.hd; omega) (by rw [e]; exact hh)
    rw [e] at this
    exact this
def rightB (ins : List Que) (k : Nat) : Bool := decide (ins.length ≤ 4) && allN k fun j => queE (ins.getD j default) == 0
theorem rightB_succ (ins : List Que) (k : Nat) : rightB ins (k + 1) = (rightB ins k && (queE (ins.getD k default) == 0)) := by
  unfold rightB
  rw [allN_succ, Bool.and_assoc]
theorem rightB_ask {t : Tsk} {ins : List Que} (ht : tskE t = 0) (h : rightB ins ins.length = true) : askQ t ins [] = 0 := by
  unfold rightB at h
  simp only [Bool.and_eq_true, decide_eq_true_eq] at h
  rcases askQ_cases t ins [] with ⟨h1, _⟩ | ⟨_, h2, _⟩ | ⟨_, _, _, h4, _⟩
  · exact absurd ht h1
  · simp at h2
    omega
  · refine h4 fun k hk => ?_
    rw [List.append_nil] at hk ⊢
    have := allN_spec h.2 k hk
    rcases queE_01 (ins.getD k default) with ⟨g, _⟩ | ⟨_, g⟩
    · exact g
    · rw [g] at this
      simp at this
theorem tsk_turn {t : Tsk} (h : tskE t = 0) {tu : Int} (h0 : 0 ≤ tu) (h1 : tu < 20) : tskE { t with turn := tu } = 0 := by
  have hg := (goodT_few h).1
  unfold tskE
  rw [if_pos]
  unfold goodT numsB at hg ⊢
  simp only [Bool.and_eq_true, decide_eq_true_eq] at hg ⊢
  exact ⟨⟨h0, h1, hg.1.2.2⟩, hg.2⟩
theorem askQ_turn {t : Tsk} {ins : List Que} (h : tskE t = 0) {tu : Int} (h0 : 0 ≤ tu) (h1 : tu < 20) : askQ { t with turn := tu } ins [] = askQ t ins [] := by
  unfold askQ
  rw [tsk_turn h h0 h1, h]
/-- what came is what is there, where all is right -/
def CamB (t : Tsk) (ins : List Que) (c : List Bool) : Prop := c.length = ins.length ∧ (rightB ins ins.length = true → ∀ k, k < ins.length → c.getD k false = hasQ ins k)
theorem camB_err {t : Tsk} {ins : List Que} {c : List Bool} (ht : tskE t = 0) (hc : c.length = ins.length) (h : askQ t ins [] ≠ 0) : CamB t ins c :=
  ⟨hc, fun hr => absurd (rightB_ask ht hr) h⟩
theorem camB_none {t : Tsk} {ins : List Que} {s0 i d : Nat} {tu : Int} {c : List Bool} (I : TurI ins s0 i d tu c) (h : firstQ tu ins < 0) : CamB t ins c :=
  ⟨I.hc, fun _ k hk => by
    rw [firstQ_no I.t0 h k]
    cases hc : c.getD k false with
    | false => rfl
    | true => have := I.h1 k hc; rw [firstQ_no I.t0 h k] at this; cases this⟩
end Go.Proofs.Ytlpmgkillalhbaa
