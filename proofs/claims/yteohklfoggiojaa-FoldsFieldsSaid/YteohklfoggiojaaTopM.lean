/-
  What is told of nodes by a stack of parts, in plain Lean: no program in sight.
-/
import Derived.Test.YteohklfoggiojaaNodeM
namespace Go.Proofs.Yteohklfoggiojaa
open Go.AL
set_option linter.unusedSimpArgs false
set_option linter.unusedVariables false
structure Top where
  pos : Nat
  size : Nat
  depth : Nat
  deriving DecidableEq, Inhabited
def Top.cells (t : Top) : List AV := [.lit (.int .i64 (t.pos : Int)), .lit (.int .i64 (t.size : Int)), .lit (.int .i64 (t.depth : Int))]
def topsV (l : List Top) : AV := .ro 3 (l.map Top.cells)
def partsN (k : Int) : Int := if 1 ≤ k ∧ k ≤ 4 then 0 else if k = 5 ∨ k = 6 then 1 else if 7 ≤ k ∧ k ≤ 19 then 2 else 0
def partsE (k : Int) : Int := if 1 ≤ k ∧ k ≤ 19 then 0 else 2
def ownN (x : Node) (a b : Int) : Node := ⟨x.kind, if x.kind = 1 then max x.n 0 else 0, a, b, min (max x.pos 0) 400⟩
def topStep (sa : List Top × List Top) (x : Node) : Option (List Top × List Top) :=
  let m := sa.1.length
  if x.kind < 1 ∨ 19 < x.kind then none
  else if x.kind ≤ 4 then
    (if ownN x 0 0 = x then some (sa.1 ++ [⟨sa.2.length, 1, 1⟩], sa.2 ++ [⟨sa.2.length, 1, 1⟩]) else none)
  else if x.kind ≤ 6 then
    (if m < 1 then none
    else
      let p := sa.1.getD (m - 1) default
      if ownN x p.pos 0 = x then some (sa.1.take (m - 1) ++ [⟨sa.2.length, 1 + p.size, max 1 (p.depth + 1)⟩], sa.2 ++ [⟨sa.2.length, 1 + p.size, max 1 (p.depth + 1)⟩]) else none)
  else
    (if m < 2 then none
    else
      let p := sa.1.getD (m - 2) default
      let q := sa.1.getD (m - 1) default
      if ownN x p.pos q.pos = x then some (sa.1.take (m - 2) ++ [⟨sa.2.length, 1 + p.size + q.size, max (max 1 (p.depth + 1)) (q.depth + 1)⟩], sa.2 ++ [⟨sa.2.length, 1 + p.size + q.size, max (max 1 (p.depth + 1)) (q.depth + 1)⟩]) else none)
def topsF (l : List Node) : Option (List Top × List Top) := l.foldlM topStep ([], [])
theorem topsF_next {l : List Node} {k : Nat} {sd : List Top × List Top} (h : topsF (l.take k) = some sd) (hk : k < l.length) : topsF (l.take (k + 1)) = topStep sd (l.getD k default) := by
  unfold topsF at *
  rw [List.take_succ_eq_append_getElem hk, List.foldlM_append, h]
  simp [List.getD_eq_getElem?_getD, List.getElem?_eq_getElem hk]
theorem topsF_stop {l : List Node} {k : Nat} {sd : List Top × List Top} (h : topsF (l.take k) = some sd) (hk : k < l.length) (h2 : topStep sd (l.getD k default) = none) : topsF l = none := by
  have h3 := topsF_next h hk
  rw [h2] at h3
  unfold topsF at *
  rw [← List.take_append_drop (k + 1) l, List.foldlM_append, h3]
  rfl
structure TopsB (k : Nat) (s a : List Top) : Prop where
  al : a.length = k
  sl : s.length ≤ k
  ss : (s.map Top.size).sum ≤ k
  sb : ∀ t ∈ s, t.pos < k ∧ t.depth ≤ k
theorem sum_split (s : List Top) (i : Nat) (hi : i < s.length) : (s.map Top.size).sum = ((s.take i).map Top.size).sum + (s.getD i default).size + ((s.drop (i + 1)).map Top.size).sum := by
  have e : s.getD i default = s[i] := by rw [List.getD_eq_getElem?_getD, List.getElem?_eq_getElem hi]; rfl
  have h : s = s.take i ++ s[i] :: s.drop (i + 1) := by rw [← List.drop_eq_getElem_cons hi, List.take_append_drop]
  have h2 := congrArg (fun l => (l.map Top.size).sum) h
  simp only [List.map_append, List.map_cons, List.sum_append, List.sum_cons] at h2
  rw [e]; omega
theorem TopsB.get {k : Nat} {s a : List Top} (h : TopsB k s a) (i : Nat) (hi : i < s.length) : (s.getD i default).pos < k ∧ (s.getD i default).depth ≤ k ∧ (s.getD i default).size ≤ k := by
  have e : s.getD i default = s[i] := by rw [List.getD_eq_getElem?_getD, List.getElem?_eq_getElem hi]; rfl
  obtain ⟨h1, h2⟩ := h.sb s[i] (List.getElem_mem hi)
  have h3 := sum_split s i hi
  have h4 := h.ss
  rw [e] at h3 ⊢
  exact ⟨h1, h2, by omega⟩
theorem TopsB.step {k : Nat} {s a s' a' : List Top} {x : Node} (h : TopsB k s a) (hs : topStep (s, a) x = some (s', a')) : TopsB (k + 1) s' a' := by
  have mk : ∀ (m : Nat) (t : Top), t.pos = a.length → t.depth ≤ k + 1 → m ≤ s.length → ((s.take m).map Top.size).sum + t.size ≤ k + 1 → TopsB (k + 1) (s.take m ++ [t]) (a ++ [t]) := by
    intro m t h1 h2 h3 h4
    refine ⟨by simp [h.al], by simp; have := h.sl; omega, by simpa using h4, fun u hu => ?_⟩
    rcases List.mem_append.1 hu with hu | hu
    · have := h.sb u (List.mem_of_mem_take hu); omega
    · simp at hu; subst hu; rw [h1, h.al]; omega
  have hss := h.ss
  unfold topStep at hs
  simp only at hs
  split at hs
  · cases hs
  split at hs
  · split at hs
    · cases hs
      have := mk s.length ⟨a.length, 1, 1⟩ rfl (by simp) (Nat.le_refl _) (by rw [List.take_length]; simp; omega)
      rwa [List.take_length] at this
    · cases hs
  split at hs
  · split at hs
    · cases hs
    split at hs
    · cases hs
      obtain ⟨_, h2, _⟩ := h.get (s.length - 1) (by omega)
      have := sum_split s (s.length - 1) (by omega)
      exact mk _ _ rfl (by simp only; omega) (by omega) (by simp only; omega)
    · cases hs
  · split at hs
    · cases hs
    split at hs
    · cases hs
      obtain ⟨_, h2, _⟩ := h.get (s.length - 1) (by omega)
      obtain ⟨_, h3, _⟩ := h.get (s.length - 2) (by omega)
      have h4 := sum_split s (s.length - 2) (by omega)
      have h5 : s.length - 2 + 1 = s.length - 1 := by omega
      rw [h5, List.drop_eq_getElem_cons (by omega : s.length - 1 < s.length)] at h4
      have e : s.getD (s.length - 1) default = s[s.length - 1]'(by omega) := by rw [List.getD_eq_getElem?_getD, List.getElem?_eq_getElem (by omega)]; rfl
      rw [List.map_cons, List.sum_cons, ← e] at h4
      exact mk _ _ rfl (by simp only; omega) (by omega) (by simp only; omega)
    · cases hs
theorem own_eq (kd nn xa xb xp a b : Int) : ownN ⟨kd, nn, xa, xb, xp⟩ a b = ⟨kd, nn, xa, xb, xp⟩ ↔
    (if kd = 1 then (if 0 > nn then 0 else nn) = nn else 0 = nn) ∧ a = xa ∧ b = xb ∧ (if 400 < (if 0 > xp then 0 else xp) then 400 else if 0 > xp then 0 else xp) = xp := by
  have e : min (max xp 0) 400 = if 400 < (if 0 > xp then 0 else xp) then 400 else if 0 > xp then 0 else xp := by
    rw [Int.max_def, Int.min_def]; repeat' split
    all_goals omega
  have e2 : max nn 0 = if 0 > nn then 0 else nn := by
    rw [Int.max_def]; repeat' split
    all_goals omega
  unfold ownN
  simp only [Node.mk.injEq, true_and, e, e2]
  by_cases hk : kd = 1
  · simp only [if_pos hk]
  · simp only [if_neg hk]
theorem max_cast (x y : Nat) : ((max x y : Nat) : Int) = if (y : Int) > (x : Int) then (y : Int) else (x : Int) := by
  rw [Nat.max_def]; split <;> split <;> omega
end Go.Proofs.Yteohklfoggiojaa
