/-
  Plain models: lists of nodes, trees, values; no program in sight.
-/
import Derived.Test.YteohklfoggiojaaPlnM
import Derived.Test.YteohklfoggiojaaCutW
namespace Go.Proofs.Yteohklfoggiojaa
open Go.AL
set_option linter.unusedSimpArgs false
set_option linter.unusedVariables false
def givesB (k : Int) : Bool := decide (k = 6) || decide (12 ≤ k)
def fitsK (k : Int) (a b : Bool) : Bool :=
  if k ≤ 4 then true else if k = 5 then !a else if k = 6 then a else if k = 16 ∨ k = 17 then a == b else if 18 ≤ k then a && b else !a && !b
def kindAt (l : List Node) (i : Int) : Int := (l.getD i.toNat default).kind
def fitsAt (l : List Node) (i : Nat) : Bool :=
  fitsK (l.getD i default).kind (givesB (kindAt l (l.getD i default).a)) (givesB (kindAt l (l.getD i default).b))
def wrongFrom (l : List Node) : Nat → Nat → Nat
  | 0, k => k
  | n + 1, k => if fitsAt l k = true then wrongFrom l n (k + 1) else k
def wrongL (l : List Node) : Nat := wrongFrom l l.length 0
theorem wrongFrom_spec (l : List Node) : ∀ (n k : Nat), k ≤ wrongFrom l n k ∧ wrongFrom l n k ≤ k + n ∧ (∀ j, k ≤ j → j < wrongFrom l n k → fitsAt l j = true) ∧ (wrongFrom l n k < k + n → fitsAt l (wrongFrom l n k) = false)
  | 0, k => ⟨Nat.le_refl _, Nat.le_refl _, fun j h1 h2 => absurd h2 (by simp only [wrongFrom]; omega), fun h => absurd h (by simp only [wrongFrom]; omega)⟩
  | n + 1, k => by
    obtain ⟨h1, h2, h3, h4⟩ := wrongFrom_spec l n (k + 1)
    simp only [wrongFrom]
    by_cases h : fitsAt l k = true
    · rw [if_pos h]
      refine ⟨by omega, by omega, fun j a b => ?_, fun a => h4 (by omega)⟩
      by_cases hj : j = k
      · rw [hj]; exact h
      · exact h3 j (by omega) b
    · rw [if_neg h]
      exact ⟨Nat.le_refl _, by omega, fun j a b => by omega, fun _ => by simpa using h⟩
theorem wrongL_le (l : List Node) : wrongL l ≤ l.length := by have := (wrongFrom_spec l l.length 0).2.1; unfold wrongL; omega
theorem wrongL_fits {l : List Node} {j : Nat} (h : j < wrongL l) : fitsAt l j = true := (wrongFrom_spec l l.length 0).2.2.1 j (Nat.zero_le _) h
theorem wrongL_not {l : List Node} (h : wrongL l < l.length) : fitsAt l (wrongL l) = false := (wrongFrom_spec l l.length 0).2.2.2 (by unfold wrongL at h; omega)
theorem wrongL_uniq {l : List Node} {k : Nat} (h1 : k ≤ l.length) (h2 : ∀ j, j < k → fitsAt l j = true) (h3 : k < l.length → fitsAt l k = false) : wrongL l = k := by
  rcases Nat.lt_trichotomy (wrongL l) k with h | h | h
  · have := wrongL_not (l := l) (by omega); rw [h2 _ h] at this; cases this
  · exact h
  · have := wrongL_fits h; rw [h3 (by have := wrongL_le l; omega)] at this; cases this
theorem wrongL_all {l : List Node} (h : ∀ j, j < l.length → fitsAt l j = true) : wrongL l = l.length := wrongL_uniq (Nat.le_refl _) h fun h => by omega
structure AtOk (l : List Node) (i : Nat) (lo : Nat) : Prop where
  k1 : 1 ≤ (l.getD i default).kind
  k2 : (l.getD i default).kind ≤ 19
  ha : 4 < (l.getD i default).kind → (lo : Int) ≤ (l.getD i default).a ∧ (l.getD i default).a < i
  hb : 6 < (l.getD i default).kind → (lo : Int) ≤ (l.getD i default).b ∧ (l.getD i default).b < i
  za : (l.getD i default).kind ≤ 4 → (l.getD i default).a = 0
  zb : (l.getD i default).kind ≤ 6 → (l.getD i default).b = 0
theorem getD_left {α : Type} [Inhabited α] {l m : List α} {i : Nat} (h : i < l.length) : (l ++ m).getD i default = l.getD i default := by
  simp only [List.getD_eq_getElem?_getD]; rw [List.getElem?_append_left h]
theorem getD_right {α : Type} [Inhabited α] {l m : List α} {i : Nat} (h : l.length ≤ i) : (l ++ m).getD i default = m.getD (i - l.length) default := by
  simp only [List.getD_eq_getElem?_getD]; rw [List.getElem?_append_right h]
theorem Ex.ats : ∀ (e : Ex) (pre post : List Node) (i : Nat), e.wf → pre.length ≤ i → i < pre.length + e.sz → AtOk (pre ++ e.fl pre.length ++ post) i pre.length
  | .leaf x, pre, post, i, hw, h1, h2 => by
    have hi : i = pre.length := by simp [Ex.sz] at h2; omega
    subst hi
    have : (pre ++ (Ex.leaf x).fl pre.length ++ post).getD pre.length default = x.node 0 0 := by
      rw [List.append_assoc, getD_right (Nat.le_refl _), Nat.sub_self]; rfl
    refine ⟨?_, ?_, ?_, ?_, ?_, ?_⟩ <;> rw [this]
    · exact hw.1.k1
    · exact hw.1.k2
    · intro h; have := hw.2; simp [Hd.node] at h; omega
    · intro h; have := hw.2; simp [Hd.node] at h; omega
    · intro _; rfl
    · intro _; rfl
  | .un x e, pre, post, i, hw, h1, h2 => by
    have hp := e.sz_pos
    simp only [Ex.sz] at h2
    by_cases hi : i < pre.length + e.sz
    · have := e.ats pre ([x.node ((pre.length + e.sz - 1 : Nat) : Int) 0] ++ post) i hw.2.2.2 h1 hi
      simpa [Ex.fl, List.append_assoc] using this
    · have hi : i = pre.length + e.sz := by omega
      subst hi
      have : (pre ++ (Ex.un x e).fl pre.length ++ post).getD (pre.length + e.sz) default = x.node ((pre.length + e.sz - 1 : Nat) : Int) 0 := by
        rw [List.append_assoc, getD_right (by omega)]
        simp only [Ex.fl, List.append_assoc]
        rw [getD_right (by rw [e.fl_length]; omega), e.fl_length]
        simp
      have k1 := hw.2.1
      have k2 := hw.2.2.1
      refine ⟨?_, ?_, ?_, ?_, ?_, ?_⟩ <;> rw [this] <;> simp only [Hd.node]
      · exact hw.1.k1
      · exact hw.1.k2
      · intro h; omega
      · intro h; omega
      · intro h; omega
      · intro h; trivial
  | .bin x e f, pre, post, i, hw, h1, h2 => by
    have hp := e.sz_pos
    have hq := f.sz_pos
    simp only [Ex.sz] at h2
    by_cases hi : i < pre.length + e.sz
    · have := e.ats pre (f.fl (pre.length + e.sz) ++ [x.node ((pre.length + e.sz - 1 : Nat) : Int) ((pre.length + e.sz + f.sz - 1 : Nat) : Int)] ++ post) i hw.2.2.1 h1 hi
      simpa [Ex.fl, List.append_assoc] using this
    · by_cases hi2 : i < pre.length + e.sz + f.sz
      · have := f.ats (pre ++ e.fl pre.length) ([x.node ((pre.length + e.sz - 1 : Nat) : Int) ((pre.length + e.sz + f.sz - 1 : Nat) : Int)] ++ post) i hw.2.2.2 (by rw [List.length_append, e.fl_length]; omega) (by rw [List.length_append, e.fl_length]; omega)
        rw [List.length_append, e.fl_length] at this
        have h3 : AtOk (pre ++ (Ex.bin x e f).fl pre.length ++ post) i (pre.length + e.sz) := by simpa [Ex.fl, List.append_assoc] using this
        exact ⟨h3.k1, h3.k2, fun h => ⟨by have := (h3.ha h).1; omega, (h3.ha h).2⟩, fun h => ⟨by have := (h3.hb h).1; omega, (h3.hb h).2⟩, h3.za, h3.zb⟩
      · have hi : i = pre.length + e.sz + f.sz := by omega
        subst hi
        have : (pre ++ (Ex.bin x e f).fl pre.length ++ post).getD (pre.length + e.sz + f.sz) default = x.node ((pre.length + e.sz - 1 : Nat) : Int) ((pre.length + e.sz + f.sz - 1 : Nat) : Int) := by
          rw [List.append_assoc, getD_right (by omega)]
          simp only [Ex.fl, List.append_assoc]
          rw [getD_right (by rw [e.fl_length]; omega), e.fl_length, getD_right (by rw [f.fl_length]; omega), f.fl_length, show pre.length + e.sz + f.sz - pre.length - e.sz - f.sz = 0 by omega]
          rfl
        have k1 := hw.2.1
        refine ⟨?_, ?_, ?_, ?_, ?_, ?_⟩ <;> rw [this] <;> simp only [Hd.node]
        · exact hw.1.k1
        · exact hw.1.k2
        · intro h; omega
        · intro h; omega
        · intro h; omega
        · intro h; omega
theorem IsEx.at {l : List Node} {e : Ex} (h : IsEx l e) {i : Nat} (hi : i < l.length) : AtOk l i 0 := by
  have := e.ats [] [] i h.1 (Nat.zero_le _) (by rw [← h.len]; simpa using hi)
  simpa [← h.2] using this
theorem fitsK_leaf {k : Int} (h : k ≤ 4) (a b : Bool) : fitsK k a b = true := by unfold fitsK; rw [if_pos h]
theorem fitsK_un {k : Int} (h : k ≤ 6) (a b b' : Bool) : fitsK k a b = fitsK k a b' := by
  unfold fitsK
  repeat' split
  all_goals first | rfl | (exfalso; omega)
end Go.Proofs.Yteohklfoggiojaa
namespace Go.Proofs.Yteohklfoggiojaa
open Go.AL
set_option linter.unusedSimpArgs false
set_option linter.unusedVariables false
def w64 (n : Int) : Int := IntKind.i64.wrap n
def i64B (x : Int) : Prop := -9223372036854775808 ≤ x ∧ x ≤ 9223372036854775807
theorem w64_eq (n : Int) : w64 n = if n % 18446744073709551616 ≥ 9223372036854775808 then n % 18446744073709551616 - 18446744073709551616 else n % 18446744073709551616 := by
  simp [w64, IntKind.wrap, IntKind.bits, IntKind.signed]
theorem w64_B (n : Int) : i64B (w64 n) := by
  rw [w64_eq]; unfold i64B; split <;> omega
theorem w64_id {n : Int} (h : i64B n) : w64 n = n := by
  unfold i64B at h
  rw [w64_eq]; split <;> omega
def shC (b : Int) : Nat := (b % 64).toNat
theorem shC_lt (b : Int) : shC b < 64 := by unfold shC; omega
theorem and63 (b : Int) : bAnd .i64 b 63 = ((shC b : Nat) : Int) := by
  unfold bAnd
  have h1 : (BitVec.ofInt IntKind.i64.bits b &&& BitVec.ofInt IntKind.i64.bits 63).toNat = shC b := by
    rw [BitVec.toNat_and, BitVec.toNat_ofInt, BitVec.toNat_ofInt]
    have e : ((63 : Int) % ((2 ^ IntKind.i64.bits : Nat) : Int)).toNat = 2 ^ 6 - 1 := by decide
    rw [e, Nat.and_two_pow_sub_one_eq_mod]
    have e2 : ((2 ^ IntKind.i64.bits : Nat) : Int) = 18446744073709551616 := by decide
    rw [e2]
    unfold shC
    omega
  rw [h1]
  have := shC_lt b
  exact w64_id (by unfold i64B; omega)
theorem bOr_0 {a b : Int} (ha : i64B a) (hb : i64B b) : (bOr .i64 a b != 0) = (a != 0 || b != 0) := by
  unfold bOr
  have e2 : ((2 ^ IntKind.i64.bits : Nat) : Int) = 18446744073709551616 := by decide
  have h0 : ∀ x : Int, i64B x → (BitVec.ofInt IntKind.i64.bits x = 0#_ ↔ x = 0) := fun x hx => by
    constructor
    · intro h
      have := congrArg BitVec.toNat h
      rw [BitVec.toNat_ofInt, e2] at this
      simp at this
      unfold i64B at hx
      omega
    · rintro rfl
      rfl
  have h1 : IntKind.i64.wrap (((BitVec.ofInt IntKind.i64.bits a ||| BitVec.ofInt IntKind.i64.bits b).toNat : Nat) : Int) = 0 ↔ a = 0 ∧ b = 0 := by
    have hlt := (BitVec.ofInt IntKind.i64.bits a ||| BitVec.ofInt IntKind.i64.bits b).isLt
    have e3 : 2 ^ IntKind.i64.bits = 18446744073709551616 := by decide
    have : ∀ n : Nat, n < 18446744073709551616 → (IntKind.i64.wrap (n : Int) = 0 ↔ n = 0) := fun n hn => by
      have := w64_eq (n : Int)
      unfold w64 at this
      rw [this]
      split <;> omega
    rw [this _ (by omega)]
    constructor
    · intro h
      have hz : (BitVec.ofInt IntKind.i64.bits a ||| BitVec.ofInt IntKind.i64.bits b) = 0#_ := BitVec.eq_of_toNat_eq (by rw [h]; rfl)
      rw [BitVec.or_eq_zero_iff] at hz
      exact ⟨(h0 a ha).1 hz.1, (h0 b hb).1 hz.2⟩
    · rintro ⟨rfl, rfl⟩
      rfl
  by_cases g : a = 0 ∧ b = 0
  · rw [h1.2 g, g.1, g.2]; rfl
  · have : IntKind.i64.wrap (((BitVec.ofInt IntKind.i64.bits a ||| BitVec.ofInt IntKind.i64.bits b).toNat : Nat) : Int) ≠ 0 := fun h => g (h1.1 h)
    rw [bne_iff_ne.2 this]
    symm
    rw [Bool.or_eq_true, bne_iff_ne, bne_iff_ne]
    by_cases ga : a = 0
    · exact .inr fun h => g ⟨ga, h⟩
    · exact .inl ga
def trI (b : Bool) : Int := if b = true then 1 else 0
theorem trI_B (b : Bool) : i64B (trI b) := by cases b <;> simp [trI, i64B]
def cmpB (k a b : Int) : Bool := if k = 12 then decide (a < b) else if k = 13 then decide (a ≤ b) else if k = 14 then decide (b < a) else if k = 15 then decide (b ≤ a) else if k = 16 then a == b else a != b
def doV (k a b : Int) : Int :=
  if k = 5 then w64 (0 - a) else if k = 6 then trI (a == 0) else if k = 7 then w64 (a * b) else if k = 8 then w64 (a + b) else if k = 9 then w64 (a - b)
  else if k = 10 then w64 (a * 2 ^ shC b) else if k = 11 then a.fdiv (2 ^ shC b) else if k = 18 then trI (a != 0 && b != 0) else if k = 19 then trI (a != 0 || b != 0)
  else trI (cmpB k a b)
theorem fdiv_B {a : Int} (h : i64B a) (n : Nat) : i64B (a.fdiv (2 ^ n)) := by
  have hp : (0 : Int) < 2 ^ n := Int.pow_pos (by decide)
  rw [Int.fdiv_eq_ediv_of_nonneg _ (Int.le_of_lt hp)]
  unfold i64B at h ⊢
  constructor
  · refine (Int.le_ediv_iff_mul_le hp).2 ?_
    have : (1 : Int) ≤ 2 ^ n := hp
    have := Int.mul_le_mul_of_nonneg_left this (by decide : (0 : Int) ≤ 9223372036854775808)
    omega
  · by_cases h0 : 0 ≤ a
    · exact Int.le_trans (Int.ediv_le_self _ h0) h.2
    · have : a / 2 ^ n < 0 := Int.ediv_neg_of_neg_of_pos (by omega) hp
      omega
theorem doV_B {k a b : Int} (h : i64B a) : i64B (doV k a b) := by
  unfold doV
  repeat' split
  all_goals first | exact w64_B _ | exact trI_B _ | exact fdiv_B h _
theorem doV_un {k a b c : Int} (h5 : 5 ≤ k) (h : k ≤ 6) : doV k a b = doV k a c := by
  rcases (show k = 5 ∨ k = 6 by omega) with rfl | rfl
  · rfl
  · rfl
def leafV (k n : Int) (r : Rcd) : Int := if k = 1 then n else if k = 2 then r.key else if k = 3 then r.t else r.v
def nodeV (r : Rcd) (x : Node) (vs : List Int) : Int := if x.kind ≤ 4 then leafV x.kind x.n r else doV x.kind (vs.getD x.a.toNat default) (vs.getD x.b.toNat default)
def valsL (r : Rcd) (l : List Node) : List Int := l.foldl (fun vs x => vs ++ [nodeV r x vs]) []
theorem valsL_snoc (r : Rcd) (l : List Node) (x : Node) : valsL r (l ++ [x]) = valsL r l ++ [nodeV r x (valsL r l)] := by
  unfold valsL; rw [List.foldl_append]; rfl
theorem take_snoc {l : List Node} {k : Nat} (hk : k < l.length) : l.take (k + 1) = l.take k ++ [l.getD k default] := by
  rw [List.take_add_one, List.getElem?_eq_getElem hk, List.getD_eq_getElem?_getD, List.getElem?_eq_getElem hk]; rfl
theorem valsL_next {r : Rcd} {l : List Node} {k : Nat} (hk : k < l.length) : valsL r (l.take (k + 1)) = valsL r (l.take k) ++ [nodeV r (l.getD k default) (valsL r (l.take k))] := by
  rw [take_snoc hk, valsL_snoc]
theorem valsL_length (r : Rcd) : ∀ l : List Node, (valsL r l).length = l.length := by
  intro l
  suffices H : ∀ k, k ≤ l.length → (valsL r (l.take k)).length = k by have := H l.length (Nat.le_refl _); rwa [List.take_length] at this
  intro k
  induction k with
  | zero => intro _; rfl
  | succ k ih => intro h; rw [valsL_next (by omega), List.length_append, ih (by omega)]; rfl
theorem valsL_take {r : Rcd} {l : List Node} : ∀ {k : Nat}, k ≤ l.length → valsL r (l.take k) = (valsL r l).take k := by
  suffices H : ∀ d k, k + d = l.length → valsL r (l.take k) = (valsL r l).take k from fun {k} h => H (l.length - k) k (by omega)
  intro d
  induction d with
  | zero => intro k h; rw [show k = l.length by omega, List.take_length, List.take_of_length_le (by rw [valsL_length]; exact Nat.le_refl _)]
  | succ d ih =>
    intro k h
    have h1 := ih (k + 1) (by omega)
    rw [valsL_next (by omega)] at h1
    have h2 := congrArg (List.take k) h1
    rw [List.take_take, Nat.min_eq_left (by omega), List.take_append_of_le_length (by rw [valsL_length]; simp; omega), List.take_of_length_le (by rw [valsL_length]; simp; omega)] at h2
    exact h2
def valAt (r : Rcd) (l : List Node) (j : Nat) : Int := (valsL r l).getD j default
theorem valAt_take {r : Rcd} {l : List Node} {k j : Nat} (hk : k ≤ l.length) (hj : j < k) : (valsL r (l.take k)).getD j default = valAt r l j := by
  unfold valAt
  rw [valsL_take hk]
  simp only [List.getD_eq_getElem?_getD]
  rw [List.getElem?_take_of_lt hj]
theorem valAt_node {r : Rcd} {l : List Node} {k : Nat} (hk : k < l.length) : valAt r l k = nodeV r (l.getD k default) (valsL r (l.take k)) := by
  rw [← valAt_take (k := k + 1) (by omega) (by omega), valsL_next hk]
  simp only [List.getD_eq_getElem?_getD]
  rw [List.getElem?_append_right (by rw [valsL_length]; simp; omega), valsL_length]
  simp [Nat.min_eq_left (Nat.le_of_lt hk)]
theorem valAt_leaf {r : Rcd} {l : List Node} {k : Nat} (hk : k < l.length) (h : (l.getD k default).kind ≤ 4) : valAt r l k = leafV (l.getD k default).kind (l.getD k default).n r := by
  rw [valAt_node hk]; unfold nodeV; rw [if_pos h]
theorem valAt_un {r : Rcd} {l : List Node} {k : Nat} (hk : k < l.length) (h4 : 4 < (l.getD k default).kind) (h : (l.getD k default).kind ≤ 6) (h0 : 0 ≤ (l.getD k default).a) (h1 : (l.getD k default).a < k) (c : Int) :
    valAt r l k = doV (l.getD k default).kind (valAt r l (l.getD k default).a.toNat) c := by
  rw [valAt_node hk]; unfold nodeV; rw [if_neg (by omega), valAt_take (by omega) (by omega)]
  exact doV_un (by omega) h
theorem valAt_bin {r : Rcd} {l : List Node} {k : Nat} (hk : k < l.length) (h : 4 < (l.getD k default).kind) (h0 : 0 ≤ (l.getD k default).a) (h1 : (l.getD k default).a < k) (h2 : 0 ≤ (l.getD k default).b) (h3 : (l.getD k default).b < k) :
    valAt r l k = doV (l.getD k default).kind (valAt r l (l.getD k default).a.toNat) (valAt r l (l.getD k default).b.toNat) := by
  rw [valAt_node hk]; unfold nodeV; rw [if_neg (by omega), valAt_take (by omega) (by omega), valAt_take (by omega) (by omega)]
def Rcd.B (r : Rcd) : Prop := i64B r.key ∧ i64B r.t ∧ i64B r.v
theorem valAt_B {r : Rcd} {l : List Node} (hr : r.B) (hn : ∀ x ∈ l, i64B x.n) : ∀ j, i64B (valAt r l j) := by
  intro j
  induction j using Nat.strongRecOn with
  | _ j ih =>
    by_cases hj : j < l.length
    · rw [valAt_node hj]
      unfold nodeV leafV
      obtain ⟨h1, h2, h3⟩ := hr
      split
      · split
        · have : l.getD j default ∈ l := by rw [List.getD_eq_getElem?_getD, List.getElem?_eq_getElem hj]; exact List.getElem_mem _
          exact hn _ this
        · split
          · exact h1
          · split
            · exact h2
            · exact h3
      · refine doV_B ?_
        by_cases ha : (l.getD j default).a.toNat < j
        · rw [valAt_take (by omega) ha]; exact ih _ ha
        · have : (valsL r (l.take j)).length = j := by rw [valsL_length]; simp; omega
          rw [List.getD_eq_getElem?_getD, List.getElem?_eq_none (by omega)]
          exact ⟨by decide, by decide⟩
    · have : (valsL r l).length = l.length := valsL_length r l
      unfold valAt
      rw [List.getD_eq_getElem?_getD, List.getElem?_eq_none (by omega)]
      exact ⟨by decide, by decide⟩
theorem doV_truth {k a b : Int} (h : givesB k = true) (h1 : k ≤ 19) : doV k a b = 0 ∨ doV k a b = 1 := by
  have ht : ∀ x, trI x = 0 ∨ trI x = 1 := fun x => by cases x; exact .inl rfl; exact .inr rfl
  have hk : k = 6 ∨ 12 ≤ k := by unfold givesB at h; simpa using h
  unfold doV
  rcases hk with rfl | hk
  · exact ht _
  · rw [if_neg (by omega), if_neg (by omega), if_neg (by omega), if_neg (by omega), if_neg (by omega), if_neg (by omega), if_neg (by omega)]
    repeat' split
    all_goals exact ht _
end Go.Proofs.Yteohklfoggiojaa
