/-
  The abstract layer, from contracts to statements. Over whatever program; no program in sight.
-/
import Derived.Test.YteohklfoggiojaaAbsD
import Derived.ProofKit
import Derived.OpenShut
import Derived.Below
import Derived.ChangeSame
import Derived.Deep.Slices
set_option linter.unusedSimpArgs false
set_option linter.unusedVariables false
set_option linter.constructorNameAsVariable false
namespace Go.AL
open Go.RowKit Go.ChangeShapes Go.WideShapes Go.Deep
set_option linter.unusedSimpArgs false
set_option linter.unusedVariables false
theorem AVle.tupLit (xs : List Value) : AVle (.tup (xs.map .lit)) (.lit (.tuple xs.toArray)) := fun w S γ ρ c u h => by
  cases h with
  | tup hl hc =>
    rename_i us
    have : us = xs := by
      apply List.ext_getElem?
      intro i
      by_cases hi : i < xs.length
      · have hiu : i < us.length := by simp at hl; omega
        have := (hc i (.lit xs[i]) us[i] (by simp [hi]) (by simp [hiu])).lit_eq
        rw [List.getElem?_eq_getElem hiu, List.getElem?_eq_getElem hi, this]
      · simp at hl
        rw [List.getElem?_eq_none (by omega), List.getElem?_eq_none (by omega)]
    subst this
    exact .lit
theorem AVle.trans {a b c : AV} (h : AVle a b) (k : AVle b c) : AVle a c := fun _ _ _ _ _ _ hv => k _ _ _ _ _ _ (h _ _ _ _ _ _ hv)
theorem AVle.any (a : AV) : AVle a .any := fun _ _ _ _ _ _ _ => .any
theorem map_add0 (A : Option Addr) : A.map (·.add 0) = A := by
  cases A with
  | none => rfl
  | some a => simp [addr_add0]
theorem acallX_pop {P : Program} {f : FuncId} {sz : Nat} (hc : Callable P f)
    (h : ∀ (A : Option Addr) (len n c : Nat), n ≤ len → len ≤ c → c ≤ maxLen → ACall P f [.lit (.slice A len c), .lit (.int .i64 (n : Int))]
      (.lit (.tuple #[.slice (if c = 0 then A else A.map (·.add (0 * sz))) (len - n) (c - 0), .slice (if c = len - n then A else A.map (·.add ((len - n) * sz))) n (c - (len - n))])))
    {r off len n : Nat} (hn : n ≤ len) : ACallX P f [.own r sz off len, .lit (.int .i64 (n : Int))] (.tup [.own r sz off (len - n), .own r sz (off + (len - n)) n]) := by
  refine ⟨hc, fun w S γ ρ us hS hl hv => ?_⟩
  match us, hl with
  | [x, y], _ =>
    have hx := hv 0 _ x rfl rfl
    have hy := (hv 1 _ y rfl rfl).lit_eq
    subst hy
    cases hx with
    | own hρ h0 hlen h1 hm hA =>
      rename_i A c A0 n0 c0 _
      obtain ⟨_, hcall⟩ := h A len n c hn hlen hm
      have := hcall w S [.slice A len c, .int .i64 (n : Int)] hS rfl (fun i a u e1 e2 => by
        match i with
        | 0 => simp at e1 e2; subst e1; subst e2; exact .lit
        | 1 => simp at e1 e2; subst e1; subst e2; exact .lit
        | i + 2 => simp at e1)
      refine this.mono fun e w' ⟨u, he, hb, hv'⟩ => ⟨u, he, hb, ?_⟩
      have := hv'.lit_eq
      subst this
      refine V.tup (us := [_, _]) rfl fun i a u e1 e2 => ?_
      match i with
      | 0 =>
        simp only [List.getElem?_cons_zero, Option.some.injEq] at e1 e2
        subst e1; subst e2
        have hA' : (if c = 0 then A else A.map (·.add (0 * sz))) = A := by
          split
          · rfl
          · rw [Nat.zero_mul]; exact map_add0 A
        rw [hA', Nat.sub_zero]
        exact .own hρ h0 (by omega) (by omega) hm (fun h => hA (by omega))
      | 1 =>
        simp only [List.getElem?_cons_succ, List.getElem?_cons_zero, Option.some.injEq] at e1 e2
        subst e1; subst e2
        refine .own hρ (fun hz => ?_) (by omega) (by omega) (by omega) (fun hp => ?_)
        · have hz1 : off = 0 := by omega
          have hz2 : len - n = 0 := by omega
          obtain ⟨e1, e2⟩ := h0 hz1
          rw [hz2, Nat.sub_zero, Nat.zero_mul]
          refine ⟨?_, e2⟩
          rw [← e1]
          split
          · rfl
          · exact map_add0 A
        · obtain ⟨g, e1, e2⟩ := hA (by omega)
          refine ⟨g, e1, ?_⟩
          rw [if_neg (by omega), e2]
          simp only [Option.map_some, addr_add]
          rw [Nat.add_mul]
      | i + 2 => simp at e1
/-! ### from contracts to statements: what is told of an input's arguments -/
noncomputable def ShpF (P : Program) (g : TypeId → List AV → Prop) : List Field → List AV → Prop
  | [], cs => cs = []
  | f :: fs, cs => ∃ a b, cs = a ++ b ∧ g f.type a ∧ ShpF P g fs b
noncomputable def Shp (P : Program) : Nat → TypeId → List AV → Prop
  | 0, _, _ => False
  | d + 1, t, cs => match P.underlying t with
    | some .bool => ∃ b, cs = [.lit (.bool b)]
    | some (.int k) => ∃ n, cs = [.lit (.int k n)] ∧ (Lit.int k n).wf = true
    | some .string => ∃ s, cs = [.lit (.string s)] ∧ s.size ≤ maxLen
    | some (.slice e) => ∃ xs, cs = [.ro (P.cellsOf e) xs] ∧ xs.length ≤ maxLen ∧ ∀ x ∈ xs, Shp P d e x
    | some (.struct fs) => ShpF P (Shp P d) fs.toList cs
    | some (.array n e) => ∃ xs : List (List AV), cs = xs.flatten ∧ xs.length = n ∧ ∀ x ∈ xs, Shp P d e x
    | _ => False
noncomputable def ShpA (P : Program) (d : Nat) (t : TypeId) (a : AV) : Prop :=
  match P.underlying t with
  | some (.struct _) => ∃ cs, a = .agg cs ∧ Shp P d t cs
  | _ => Shp P d t [a]
noncomputable def ShpAs (P : Program) (d : Nat) : List TypeId → List AV → Prop
  | [], as => as = []
  | t :: ts, as => ∃ a bs, as = a :: bs ∧ ShpA P d t a ∧ ShpAs P d ts bs
/-! what a type's shape says, type by type -/
noncomputable def stT (P : Program) (t : TypeId) : Option (List TypeId) := match P.underlying t with
  | some (.struct fs) => some (fs.toList.map (·.type))
  | _ => none
noncomputable def inT (P : Program) (t : TypeId) : Option IntKind := match P.underlying t with
  | some (.int k) => some k
  | _ => none
noncomputable def slT (P : Program) (t : TypeId) : Option (TypeId × Nat) := match P.underlying t with
  | some (.slice e) => some (e, P.cellsOf e)
  | _ => none
noncomputable def ShpTs (g : TypeId → List AV → Prop) : List TypeId → List AV → Prop
  | [], cs => cs = []
  | t :: ts, cs => ∃ a b, cs = a ++ b ∧ g t a ∧ ShpTs g ts b
theorem shpF_ts {P : Program} {g : TypeId → List AV → Prop} : ∀ {fs : List Field} {cs : List AV}, ShpF P g fs cs → ShpTs g (fs.map (·.type)) cs
  | [], cs, h => h
  | f :: fs, cs, ⟨a, b, e, h1, h2⟩ => ⟨a, b, e, h1, shpF_ts h2⟩
theorem shp_st {P : Program} {d : Nat} {t : TypeId} {cs : List AV} {ts : List TypeId} (h : stT P t = some ts) (hs : Shp P (d + 1) t cs) : ShpTs (Shp P d) ts cs := by
  unfold stT at h
  split at h
  · rename_i fs hu; cases h; simp only [Shp, hu] at hs; exact shpF_ts hs
  · cases h
theorem shp_in {P : Program} {d : Nat} {t : TypeId} {cs : List AV} {k : IntKind} (h : inT P t = some k) (hs : Shp P (d + 1) t cs) : ∃ n, cs = [.lit (.int k n)] ∧ (Lit.int k n).wf = true := by
  unfold inT at h
  split at h
  · rename_i k' hu; cases h; simp only [Shp, hu] at hs; exact hs
  · cases h
theorem shp_bo {P : Program} {d : Nat} {t : TypeId} {cs : List AV} (h : boolT P t = true) (hs : Shp P (d + 1) t cs) : ∃ b, cs = [.lit (.bool b)] := by
  have hu := boolT_spec h
  simp only [Shp, hu] at hs; exact hs
theorem shp_sl {P : Program} {d : Nat} {t : TypeId} {cs : List AV} {q : TypeId × Nat} (h : slT P t = some q) (hs : Shp P (d + 1) t cs) : ∃ xs, cs = [.ro q.2 xs] ∧ xs.length ≤ maxLen ∧ ∀ x ∈ xs, Shp P d q.1 x := by
  unfold slT at h
  split at h
  · rename_i e hu; cases h; simp only [Shp, hu] at hs; exact hs
  · cases h
theorem shpA_one {P : Program} {d : Nat} {t : TypeId} {a : AV} (h : stT P t = none) (hs : ShpA P d t a) : Shp P d t [a] := by
  unfold stT at h
  split at h
  · cases h
  · rename_i hu
    unfold ShpA at hs
    split at hs
    · rename_i fs hu2; exact absurd hu2 (hu fs)
    · exact hs
theorem shpA_st {P : Program} {d : Nat} {t : TypeId} {a : AV} {ts : List TypeId} (h : stT P t = some ts) (hs : ShpA P (d + 1) t a) : ∃ cs, a = .agg cs ∧ ShpTs (Shp P d) ts cs := by
  have h0 := h
  unfold stT at h
  split at h
  · rename_i fs hu
    unfold ShpA at hs
    rw [hu] at hs
    obtain ⟨cs, e, h2⟩ := hs
    exact ⟨cs, e, shp_st h0 h2⟩
  · cases h
theorem wf_i64 {n : Int} (h : (Lit.int .i64 n).wf = true) : -9223372036854775808 ≤ n ∧ n ≤ 9223372036854775807 := by
  simp only [Lit.wf, Bool.and_eq_true, decide_eq_true_eq] at h
  have h1 : IntKind.i64.min = -9223372036854775808 := rfl
  have h2 : IntKind.i64.max = 9223372036854775807 := rfl
  rw [h1, h2] at h
  exact h
section
variable {H : Type} {enc : TypeId × Value → H} {P : Program} {w w' : World}
noncomputable def Told (w : World) (avs : List AV) (cs : List Value) : Prop :=
  avs.length = cs.length ∧ ∀ (j : Nat) (c : AV) (u : Value), avs[j]? = some c → cs[j]? = some u → u.oneCell' = true ∧ V w (fun b => b < w.heap.size) [] [] true c u
theorem Told.append {a b : List AV} {x y : List Value} (h : Told w a x) (k : Told w b y) : Told w (a ++ b) (x ++ y) := by
  refine ⟨by simp [h.1, k.1], fun j c u h1 h2 => ?_⟩
  by_cases hj : j < a.length
  · rw [List.getElem?_append_left hj] at h1
    rw [List.getElem?_append_left (by rw [← h.1]; exact hj)] at h2
    exact h.2 j c u h1 h2
  · rw [List.getElem?_append_right (by omega)] at h1
    rw [List.getElem?_append_right (by rw [← h.1]; omega)] at h2
    rw [← h.1] at h2
    exact k.2 _ c u h1 h2
theorem Told.one {a : AV} {u : Value} (h : u.oneCell' = true) (k : V w (fun b => b < w.heap.size) [] [] true a u) : Told w [a] [u] := by
  refine ⟨rfl, fun j c x h1 h2 => ?_⟩
  cases j with
  | zero => simp at h1 h2; subst h1; subst h2; exact ⟨h, k⟩
  | succ j => simp at h1
end
end Go.AL
