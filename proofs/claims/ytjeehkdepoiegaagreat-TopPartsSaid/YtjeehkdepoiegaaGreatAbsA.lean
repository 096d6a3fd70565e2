/-
  The abstract layer, first part: abstract values, what they say of values and memory, equality of structs. Over whatever program; no program in sight.
-/
import Derived.WalkKit
import Derived.WalkSmall
import Derived.Maps.AppendAt
import Derived.Deep.Quiet
import Derived.Lib.Hide
import Derived.Laws.StructEq
set_option linter.unusedSimpArgs false
set_option linter.unusedVariables false
set_option linter.constructorNameAsVariable false
namespace Go.AL
open Go.RowKit
inductive AV where
  | any
  | lit (v : Value)
  | agg (cs : List AV)
  | tup (vs : List AV)
  | ro (sz : Nat) (xs : List (List AV))
  | rop (cs : List AV)
  | own (r sz off len : Nat)
  | rp (r sz i f : Nat)
  | bp (b off : Nat)
  | opt (p : Bool) (v : AV)
  | fn (g : FuncId) (caps : List AV)
deriving Inhabited
inductive V (w : World) (S : Nat → Prop) (γ : List Nat) (ρ : List Value) : Bool → AV → Value → Prop
  | any {b u} : V w S γ ρ b .any u
  | lit {b u} : V w S γ ρ b (.lit u) u
  | opt {b p v u} (h : p = true → V w S γ ρ b v u) (h' : p = false → u = undef) : V w S γ ρ b (.opt p v) u
  | agg {b} {cs : List AV} {us : List Value} (hl : us.length = cs.length) (h : ∀ (i : Nat) (c : AV) (u : Value), cs[i]? = some c → us[i]? = some u → V w S γ ρ b c u) : V w S γ ρ b (.agg cs) (.agg us.toArray)
  | tup {b} {cs : List AV} {us : List Value} (hl : us.length = cs.length) (h : ∀ (i : Nat) (c : AV) (u : Value), cs[i]? = some c → us[i]? = some u → V w S γ ρ b c u) : V w S γ ρ b (.tup cs) (.tuple us.toArray)
  | fn {b g} {cs : List AV} {us : List Value} (hl : us.length = cs.length) (h : ∀ (i : Nat) (c : AV) (u : Value), cs[i]? = some c → us[i]? = some u → V w S γ ρ b c u) : V w S γ ρ b (.fn g cs) (.func (.func g) #[] us.toArray)
  | ro {b sz} {xs : List (List AV)} {A : Option Addr} {n c : Nat} (U : Nat → Nat → Value) (hn : xs.length = n) (hc : n ≤ c) (hm : c ≤ maxLen) (hz : ∀ r ∈ xs, r.length = sz)
      (hA : xs ≠ [] → ∃ ad, A = some ad ∧ S ad.block ∧ ∀ (i : Nat) (r : List AV) (j : Nat) (x : AV), xs[i]? = some r → r[j]? = some x → w.cell? (ad.add (i * sz + j)) = some (U i j) ∧ (U i j).oneCell' = true)
      (hv : ∀ (i : Nat) (r : List AV) (j : Nat) (x : AV), xs[i]? = some r → r[j]? = some x → V w S γ ρ true x (U i j)) : V w S γ ρ b (.ro sz xs) (.slice A n c)
  | rop {b} {cs : List AV} {ad : Addr} (U : Nat → Value) (hS : S ad.block) (hcell : ∀ (j : Nat) (x : AV), cs[j]? = some x → w.cell? (ad.add j) = some (U j))
      (hv : ∀ (j : Nat) (x : AV), cs[j]? = some x → V w S γ ρ true x (U j)) : V w S γ ρ b (.rop cs) (.pointer (some ad))
  | own {r sz off len : Nat} {A : Option Addr} {c : Nat} {A0 : Option Addr} {n0 c0 : Nat} (hρ : ρ[r]? = some (.slice A0 n0 c0)) (h0 : off = 0 → A = A0 ∧ c = c0) (hlen : len ≤ c) (h1 : off + len ≤ n0) (hm : c ≤ maxLen)
      (hA : 0 < len → ∃ g, A0 = some ⟨g, 0, none⟩ ∧ A = some ⟨g, off * sz, none⟩) : V w S γ ρ false (.own r sz off len) (.slice A len c)
  | rp {r sz i f g n c : Nat} (hρ : ρ[r]? = some (.slice (some ⟨g, 0, none⟩) n c)) : V w S γ ρ false (.rp r sz i f) (.pointer (some ⟨g, i * sz + f, none⟩))
  | bp {k off g : Nat} (hγ : γ[k]? = some g) : V w S γ ρ false (.bp k off) (.pointer (some ⟨g, off, none⟩))
theorem V.mono {w w' : World} {S S' : Nat → Prop} {γ γ' : List Nat} {ρ ρ' : List Value} {b : Bool} {a : AV} {u : Value} (h : V w S γ ρ b a u)
    (hw : ∀ p : Addr, S p.block → ∀ x, w.cell? p = some x → w'.cell? p = some x) (hS : ∀ g, S g → S' g)
    (hγ : ∀ (k : Nat) (g : Nat), γ[k]? = some g → γ'[k]? = some g) (hρ : ∀ (k : Nat) (g : Value), ρ[k]? = some g → ρ'[k]? = some g) : V w' S' γ' ρ' b a u := by
  have hadd : ∀ (ad : Addr) (k : Nat), (ad.add k).block = ad.block := fun ad k => by unfold Addr.add; split <;> rfl
  induction h with
  | any => exact .any
  | lit => exact .lit
  | opt _ h' ih => exact .opt ih h'
  | agg hl _ ih => exact .agg hl ih
  | tup hl _ ih => exact .tup hl ih
  | fn hl _ ih => exact .fn hl ih
  | ro U hn hc hm hz hA _ ih =>
    refine .ro U hn hc hm hz (fun hne => ?_) ih
    obtain ⟨ad, e, hs, hcell⟩ := hA hne
    exact ⟨ad, e, hS _ hs, fun i r j x h1 h2 => ⟨hw _ (by rw [hadd]; exact hs) _ (hcell i r j x h1 h2).1, (hcell i r j x h1 h2).2⟩⟩
  | rop U hs hcell _ ih => exact .rop U (hS _ hs) (fun j x h1 => hw _ (by rw [hadd]; exact hs) _ (hcell j x h1)) ih
  | own h h0 hlen h1 hm hA => exact .own (hρ _ _ h) h0 hlen h1 hm hA
  | rp h => exact .rp (hρ _ _ h)
  | bp h => exact .bp (hγ _ _ h)
theorem V.closed {w : World} {S : Nat → Prop} {γ γ' : List Nat} {ρ ρ' : List Value} {a : AV} {u : Value} (h : V w S γ ρ true a u) : ∀ b, V w S γ' ρ' b a u := by
  generalize hb : true = b0 at h
  induction h with
  | any => exact fun _ => .any
  | lit => exact fun _ => .lit
  | opt _ h' ih => exact fun b => .opt (fun hp => ih hp hb b) h'
  | agg hl _ ih => exact fun b => .agg hl fun i c u h1 h2 => ih i c u h1 h2 hb b
  | tup hl _ ih => exact fun b => .tup hl fun i c u h1 h2 => ih i c u h1 h2 hb b
  | fn hl _ ih => exact fun b => .fn hl fun i c u h1 h2 => ih i c u h1 h2 hb b
  | ro U hn hc hm hz hA _ ih => exact fun b => .ro U hn hc hm hz hA fun i r j x h1 h2 => ih i r j x h1 h2 rfl true
  | rop U hs hcell _ ih => exact fun b => .rop U hs hcell fun j x h1 => ih j x h1 rfl true
  | own => cases hb
  | rp => cases hb
  | bp => cases hb
def AV.one : AV → Bool
  | .lit u => u.oneCell'
  | .ro .. | .rop .. | .own .. | .rp .. | .bp .. | .fn .. => true
  | _ => false
theorem V.one {w : World} {S : Nat → Prop} {γ : List Nat} {ρ : List Value} {b : Bool} {a : AV} {u : Value} (h : V w S γ ρ b a u) (h1 : a.one = true) : u.oneCell' = true := by
  cases h <;> simp_all [AV.one] <;> rfl
/-! ### killing what speaks of a row -/
mutual
def AV.kill (r : Nat) : AV → AV
  | .own r' sz off len => if r' = r then .any else .own r' sz off len
  | .rp r' sz i f => if r' = r then .any else .rp r' sz i f
  | .agg cs => .agg (killL r cs)
  | .tup cs => .tup (killL r cs)
  | .fn g cs => .fn g (killL r cs)
  | .opt p v => .opt p (AV.kill r v)
  | .any => .any
  | .lit v => .lit v
  | .ro sz xs => .ro sz xs
  | .rop cs => .rop cs
  | .bp b off => .bp b off
def killL (r : Nat) : List AV → List AV
  | [] => []
  | c :: cs => AV.kill r c :: killL r cs
end
theorem killL_eq (r : Nat) : ∀ cs, killL r cs = cs.map (AV.kill r)
  | [] => by simp [killL]
  | c :: cs => by simp [killL, killL_eq r cs]
theorem V.kill {w : World} {S : Nat → Prop} {γ : List Nat} {ρ : List Value} {b : Bool} {a : AV} {u : Value} (h : V w S γ ρ b a u) (r : Nat) (ρ' : List Value)
    (hρ : ∀ (k : Nat) (g : Value), k ≠ r → ρ[k]? = some g → ρ'[k]? = some g) : V w S γ ρ' b (a.kill r) u := by
  induction h with
  | any => simp only [AV.kill]; exact .any
  | lit => simp only [AV.kill]; exact .lit
  | opt _ h' ih => simp only [AV.kill]; exact .opt ih h'
  | agg hl _ ih =>
    simp only [AV.kill, killL_eq]
    refine .agg (by simpa using hl) fun i c u h1 h2 => ?_
    rw [List.getElem?_map] at h1
    obtain ⟨c0, hc, rfl⟩ := Option.map_eq_some_iff.1 h1
    exact ih i c0 u hc h2
  | tup hl _ ih =>
    simp only [AV.kill, killL_eq]
    refine .tup (by simpa using hl) fun i c u h1 h2 => ?_
    rw [List.getElem?_map] at h1
    obtain ⟨c0, hc, rfl⟩ := Option.map_eq_some_iff.1 h1
    exact ih i c0 u hc h2
  | fn hl _ ih =>
    simp only [AV.kill, killL_eq]
    refine .fn (by simpa using hl) fun i c u h1 h2 => ?_
    rw [List.getElem?_map] at h1
    obtain ⟨c0, hc, rfl⟩ := Option.map_eq_some_iff.1 h1
    exact ih i c0 u hc h2
  | ro U hn hc hm hz hA hv _ => simp only [AV.kill]; exact .ro U hn hc hm hz hA fun i r j x h1 h2 => (hv i r j x h1 h2).closed true
  | rop U hs hcell hv _ => simp only [AV.kill]; exact .rop U hs hcell fun j x h1 => (hv j x h1).closed true
  | own h h0 hlen h1 hm hA =>
    simp only [AV.kill]
    split
    · exact .any
    · rename_i hne; exact .own (hρ _ _ hne h) h0 hlen h1 hm hA
  | rp h =>
    simp only [AV.kill]
    split
    · exact .any
    · rename_i hne; exact .rp (hρ _ _ hne h)
  | bp h => simp only [AV.kill]; exact .bp h
structure Row where
  ty : TypeId
  sz : Nat
  elems : List (List AV)
deriving Inhabited
structure ASt where
  env : List (Nat × AV)
  boxes : List (List AV)
  rows : List (Option Row)
structure HR (w : World) (B : Nat) (S : Nat → Prop) (γ : List Nat) (ρ : List Value) (boxes : List (List AV)) (rows : List (Option Row)) : Prop where
  nb : γ.length = boxes.length
  nr : ρ.length = rows.length
  box : ∀ (k : Nat) (cs : List AV) (g : Nat), boxes[k]? = some cs → γ[k]? = some g → B ≤ g ∧ ¬ S g ∧ ∃ (us : Array Value) (ty : TypeId), w.heap[g]? = some (.cells us ty (0, 0)) ∧ us.size = cs.length ∧
    (∀ (j : Nat) (c : AV), cs[j]? = some c → ∃ u, us[j]? = some u ∧ u.oneCell' = true ∧ V w S γ ρ false c u)
  row : ∀ (r : Nat) (rw_ : Row) (v : Value), rows[r]? = some (some rw_) → ρ[r]? = some v → 0 < rw_.sz ∧ (∀ x ∈ rw_.elems, x.length = rw_.sz) ∧ (∀ g, v.ownBlock = some g → ¬ S g) ∧
    ∃ cells : List Value, w.ownsRow B rw_.ty rw_.sz v rw_.elems.length cells ∧
      ∀ (i : Nat) (x : List AV) (j : Nat) (c : AV), rw_.elems[i]? = some x → x[j]? = some c → ∃ u, cells[i * rw_.sz + j]? = some u ∧ u.oneCell' = true ∧ V w S γ ρ true c u
  inj : ∀ (i j g : Nat), γ[i]? = some g → γ[j]? = some g → i = j
  sep : ∀ (k r g : Nat) (rw_ : Row) (v : Value), γ[k]? = some g → rows[r]? = some (some rw_) → ρ[r]? = some v → v.ownBlock ≠ some g
  rinj : ∀ (r r' : Nat) (rw_ rw_' : Row) (v v' : Value) (g : Nat), rows[r]? = some (some rw_) → rows[r']? = some (some rw_') → ρ[r]? = some v → ρ[r']? = some v' → v.ownBlock = some g → v'.ownBlock = some g → r = r'
def eget : List (Nat × AV) → Nat → AV
  | [], _ => .any
  | (k, v) :: t, s => if k = s then v else eget t s
def eput : List (Nat × AV) → Nat → AV → List (Nat × AV)
  | [], s, v => [(s, v)]
  | (k, x) :: t, s, v => if k = s then (s, v) :: t else (k, x) :: eput t s v
theorem eget_eput (e : List (Nat × AV)) (s t : Nat) (v : AV) : eget (eput e s v) t = if s = t then v else eget e t := by
  induction e with
  | nil => simp [eget, eput]
  | cons p e ih =>
    obtain ⟨k, x⟩ := p
    simp only [eput]
    by_cases hk : k = s
    · subst hk; rw [if_pos rfl]; simp only [eget]; by_cases h : k = t <;> simp [h]
    · rw [if_neg hk]; simp only [eget, ih]
      by_cases h : k = t
      · subst h; rw [if_pos rfl, if_pos rfl, if_neg (fun e => hk e.symm)]
      · rw [if_neg h, if_neg h]
structure Stab where
  s : Nat → Prop
  k : List (Nat × Obj)
  m : Bool
def KeepL (k : List (Nat × Obj)) (w : World) (S : Nat → Prop) : Prop := ∀ x ∈ k, w.heap[x.1]? = some x.2 ∧ (∀ us ty o, x.2 ≠ .cells us ty o) ∧ ¬ S x.1
theorem KeepL.later {k : List (Nat × Obj)} {w w' : World} {S S' : Nat → Prop} (h : KeepL k w S) (hb : ∀ g, g < w.heap.size → w'.heap[g]? = w.heap[g]?) (hS' : ∀ g, S' g → S g ∨ w.heap.size ≤ g) : KeepL k w' S' := fun x hx => by
  obtain ⟨h1, h2, h3⟩ := h x hx
  have hlt := (Array.getElem?_eq_some_iff.1 h1).1
  refine ⟨(hb _ hlt).trans h1, h2, fun hs => ?_⟩
  rcases hS' _ hs with h4 | h4
  · exact h3 h4
  · omega
theorem KeepL.less {k : List (Nat × Obj)} {w : World} {S S' : Nat → Prop} (h : KeepL k w S) (hS' : ∀ g, S' g → S g ∨ ∃ us ty o, w.heap[g]? = some (.cells us ty o)) : KeepL k w S' := fun x hx => by
  obtain ⟨h1, h2, h3⟩ := h x hx
  refine ⟨h1, h2, fun hs => ?_⟩
  rcases hS' _ hs with h4 | ⟨us, ty, o, h4⟩
  · exact h3 h4
  · rw [h1] at h4; exact h2 _ _ _ (Option.some.inj h4)
theorem KeepL.other {kl : List (Nat × Obj)} {w w' : World} {S : Nat → Prop} {row : Option Nat} (h : KeepL kl w S) (hc : ∀ r, row = some r → ∃ us ty o, w.heap[r]? = some (.cells us ty o))
    (hb : ∀ k, k < w.heap.size → some k ≠ row → w'.heap[k]? = w.heap[k]?) : KeepL kl w' S := fun x hx => by
  obtain ⟨h1, h2, h3⟩ := h x hx
  have hlt := (Array.getElem?_eq_some_iff.1 h1).1
  refine ⟨(hb _ hlt fun e => ?_).trans h1, h2, h3⟩
  obtain ⟨us, ty, o, h4⟩ := hc _ e.symm
  rw [h1] at h4; exact h2 _ _ _ (Option.some.inj h4)
def mark (D : Nat) : Deferred := { target := .collected D, args := #[] }
def emk (D : Nat) : Nat × Obj := (D, .deferred (some []))
def Defs (m : Bool) (w0 : World) (a : Act) (w : World) (S : Nat → Prop) : Prop := (m = false → a.defers = []) ∧ ∃ Ds : List Nat, a.defers = Ds.map mark ∧ Ds.Nodup ∧ (∀ D ∈ Ds, w0.heap.size ≤ D) ∧ KeepL (Ds.map emk) w S
theorem Defs.map {m : Bool} {w0 : World} {a : Act} {w w' : World} {S S' : Nat → Prop} (h : Defs m w0 a w S) (f : ∀ k, KeepL k w S → KeepL k w' S') : Defs m w0 a w' S' :=
  ⟨h.1, let ⟨Ds, h1, h2, h3, h4⟩ := h.2; ⟨Ds, h1, h2, h3, f _ h4⟩⟩
theorem Defs.nil {m : Bool} {w0 : World} {a : Act} {w : World} {S : Nat → Prop} (h : a.defers = []) : Defs m w0 a w S := ⟨fun _ => h, [], h, List.nodup_nil, fun _ hD => (by cases hD), fun _ hx => (by cases hx)⟩
structure RelAt (w0 : World) (S0 : Stab) (n : Nat) (st : ASt) (a : Act) (w : World) (S : Nat → Prop) (γ : List Nat) (ρ : List Value) : Prop where
  below : Below w0.heap.size w0 w
  s0 : (∀ b, S b → S0.s b ∨ w0.heap.size ≤ b) ∧ KeepL S0.k w S
  sw : ∀ b, S b → b < w.heap.size
  heap : HR w w0.heap.size S γ ρ st.boxes st.rows
  size : a.tmps.size = n
  defs : Defs S0.m w0 a w S
  env : ∀ s, V w S γ ρ false (eget st.env s) (a.tmps.getD s undef)
def Rel (w0 : World) (S0 : Stab) (n : Nat) (st : ASt) (a : Act) (w : World) : Prop := ∃ S γ ρ, RelAt w0 S0 n st a w S γ ρ
end Go.AL
namespace Go.AL
open Go.RowKit
/-! ### tables -/
def aggD : TypeDesc → Bool
  | .struct _ | .array _ _ => true
  | _ => false
def ldT (P : Program) (t : TypeId) : Option (Option Nat) :=
  match P.underlying t, P.info? t with
  | some (.struct _), some i => some (some i.size)
  | some (.array _ _), some i => some (some i.size)
  | some _, some _ => some none
  | _, _ => none
def fldO (P : Program) (s f : Nat) : Option Nat :=
  match P.underlying s with
  | some (.struct fs) =>
    match fs[f]? with
    | some fd => (match P.info? fd.type with
      | some i => if i.size = 0 then none else some fd.offset
      | none => none)
    | none => none
  | _ => none
def elS (P : Program) (t : TypeId) : Option Nat :=
  match P.underlying t with
  | some (.slice e) => (P.info? e).map (·.size)
  | _ => none
def arS (P : Program) (t : TypeId) : Option (Nat × Nat) :=
  match P.underlying t with
  | some (.array n e) => (P.info? e).map fun i => (n, i.size)
  | _ => none
/-! ### reading -/
def getRow (rows : List (Option Row)) (r sz : Nat) : Option Row :=
  match rows[r]? with
  | some (some rw_) => if rw_.sz = sz then some rw_ else none
  | _ => none
def cellsAt (boxes : List (List AV)) (rows : List (Option Row)) : AV → Option (List AV)
  | .rop cs => some cs
  | .bp b off => (boxes[b]?).map (·.drop off)
  | .rp r sz i f => (getRow rows r sz).map fun rw_ => (rw_.elems.getD i []).drop f
  | _ => none
def aload (P : Program) (t : TypeId) : Option (List AV) → AV × Prop
  | some cs => match ldT P t with
    | some none => (cs.getD 0 .any, 0 < cs.length)
    | some (some k) => (.agg (cs.take k), k ≤ cs.length)
    | none => (.any, False)
  | none => (.any, False)
def elemsOf (rows : List (Option Row)) : AV → Option (Nat × List (List AV))
  | .ro sz xs => some (sz, xs)
  | .own r sz off len => (getRow rows r sz).map fun rw_ => (sz, (rw_.elems.drop off).take len)
  | .lit (.slice _ 0 _) => some (0, [])
  | _ => none
variable {P : Program} {w : World} {S : Nat → Prop} {γ : List Nat} {ρ : List Value}
theorem addr_add (g o j : Nat) : (⟨g, o, none⟩ : Addr).add j = ⟨g, o + j, none⟩ := by
  unfold Addr.add; split <;> simp_all
theorem add_add (a : Addr) (i j : Nat) : (a.add i).add j = a.add (i + j) := by
  unfold Addr.add
  by_cases hi : i = 0 <;> by_cases hj : j = 0 <;> simp [hi, hj, Nat.add_assoc]
theorem own_cells_at {B : Nat} {ty sz n : Nat} {v : Value} {cells : List Value} (h : w.ownsRow B ty sz v n cells) {g : Nat} (hg : v.ownBlock = some g) : ∃ us ty o, w.heap[g]? = some (.cells us ty o) := by
  rcases h.2 with ⟨rfl, _⟩ | ⟨g', cap', cur, rfl, _, hh, _⟩
  · simp [Value.ownBlock] at hg
  · simp [Value.ownBlock] at hg; subst hg; exact ⟨_, _, _, hh⟩
theorem own_cells {B : Nat} {ty sz n : Nat} {g n' c : Nat} {cells : List Value} (h : w.ownsRow B ty sz (.slice (some ⟨g, 0, none⟩) n' c) n cells) :
    n' = n ∧ B ≤ g ∧ c ≤ maxLen ∧ n ≤ c ∧ ∃ cur, w.heap[g]? = some (.cells cur ty (0, 0)) ∧ cur.size = c * sz ∧ cur.toList.take (n * sz) = cells := by
  rcases h.2 with ⟨h0, _⟩ | ⟨g', cap', cur, hv, hg, hh, hn, hcap, hsz, htake⟩
  · cases h0
  · cases hv
    exact ⟨rfl, hg, hcap, hn, cur, hh, hsz, htake⟩
theorem own_cell {B : Nat} {ty sz n : Nat} {g n' c k : Nat} {cells : List Value} {u : Value} (h : w.ownsRow B ty sz (.slice (some ⟨g, 0, none⟩) n' c) n cells)
    (hk : cells[k]? = some u) : w.cell? ⟨g, k, none⟩ = some u := by
  obtain ⟨_, _, _, _, cur, hh, _, ht⟩ := own_cells h
  rw [cell_of_row w g k cur ty (0, 0) hh]
  rw [← ht, List.getElem?_take] at hk
  split at hk
  · simpa using hk
  · cases hk
theorem cellsAt_sound {B : Nat} {boxes : List (List AV)} {rows : List (Option Row)} (hr : HR w B S γ ρ boxes rows) {p : AV} {u : Value} {cs : List AV}
    (hp : V w S γ ρ false p u) (h : cellsAt boxes rows p = some cs) :
    ∃ ad, u = .pointer (some ad) ∧ ∀ j c, cs[j]? = some c → ∃ x, w.cell? (ad.add j) = some x ∧ V w S γ ρ false c x := by
  cases p <;> simp only [cellsAt] at h <;> try (cases h; done)
  case rop cs' =>
    cases h
    cases hp with
    | rop U hS hcell hv => exact ⟨_, rfl, fun j c hj => ⟨_, hcell j c hj, (hv j c hj).closed false⟩⟩
  case bp b off =>
    cases hp with
    | bp hγ =>
      rename_i g
      obtain ⟨cs0, hb, rfl⟩ := Option.map_eq_some_iff.1 h
      obtain ⟨_, _, us, ty, hh, hs, hc⟩ := hr.box b cs0 g hb hγ
      refine ⟨_, rfl, fun j c hj => ?_⟩
      rw [List.getElem?_drop] at hj
      obtain ⟨x, hx, _, hv⟩ := hc _ c hj
      exact ⟨x, by rw [addr_add, cell_of_row w g _ us ty (0, 0) hh]; exact hx, hv⟩
  case rp r sz i f =>
    cases hp with
    | rp hρ =>
      rename_i g n c
      obtain ⟨rw_, hrow, rfl⟩ := Option.map_eq_some_iff.1 h
      unfold getRow at hrow
      split at hrow
      · rename_i rw' hr'
        split at hrow
        · rename_i hsz
          cases hrow
          subst hsz
          obtain ⟨hpos, hlen, _, cells, hown, hc⟩ := hr.row r rw_ _ hr' hρ
          refine ⟨_, rfl, fun j c hj => ?_⟩
          rw [List.getElem?_drop] at hj
          rw [List.getD_eq_getElem?_getD] at hj
          cases hi : rw_.elems[i]? with
          | none => simp [hi] at hj
          | some x =>
            simp only [hi, Option.getD_some] at hj
            obtain ⟨u, h1, _, h3⟩ := hc i x _ c hi hj
            refine ⟨u, ?_, h3.closed false⟩
            rw [addr_add, Nat.add_assoc]
            exact own_cell hown h1
        · cases hrow
      · cases hrow
theorem run_loadVar_agg (ad : Addr) (ty : TypeId) (cs : Array Value) (d : TypeDesc) 
    (hc : ∀ j u, cs[j]? = some u → w.cell? (ad.add j) = some u)
    (hu : P.underlying ty = some d) (hd : aggD d = true) (hi : (P.info? ty).map (·.size) = some cs.size) :
    (loadVar ty ad).run P w = .ok (.agg cs) w := by
  have hl : (loadCells ad cs.toList.length).run P w = .ok cs.toList.toArray w :=
    run_loadCells_list (P := P) w ad cs.toList (fun j v hv => hc j v (by simpa using hv))
  cases hq : P.info? ty with
  | none => simp [hq] at hi
  | some i =>
    have hs : i.size = cs.size := by simpa [hq] using hi
    have hagg : (isAgg ty).run P w = .ok true w := by
      unfold isAgg
      rw [Sem.run_bind, run_underlying hu w]
      cases d <;> simp_all [aggD]
    simp only [Array.length_toList, Array.toArray_toList] at hl
    simp [loadVar, Sem.run_bind, hagg, sizeOf, typeInfo, hq, hs, hl]
theorem run_loadVar_one (ad : Addr) (ty : TypeId) (x : Value) (d : TypeDesc) (hc : w.cell? ad = some x) (hu : P.underlying ty = some d)
    (hd : aggD d = false) : (loadVar ty ad).run P w = .ok x w := by
  have hagg : (isAgg ty).run P w = .ok false w := by
    unfold isAgg
    rw [Sem.run_bind, run_underlying hu w]
    cases d <;> simp_all [aggD]
  simp [loadVar, Sem.run_bind, hagg, hc]
theorem addr_add0 (a : Addr) : a.add 0 = a := by unfold Addr.add; simp
theorem ldT_one {t : TypeId} (h : ldT P t = some none) : ∃ d, P.underlying t = some d ∧ aggD d = false := by
  unfold ldT at h
  cases hu : P.underlying t with
  | none => simp [hu] at h
  | some d => 
    cases hi : P.info? t with
    | none => rw [hu, hi] at h; cases d <;> cases h
    | some i => exact ⟨d, rfl, by rw [hu, hi] at h; cases d <;> simp_all [aggD]⟩
theorem ldT_agg {t : TypeId} {k : Nat} (h : ldT P t = some (some k)) : ∃ d i, P.underlying t = some d ∧ aggD d = true ∧ P.info? t = some i ∧ i.size = k := by
  unfold ldT at h
  cases hu : P.underlying t with
  | none => simp [hu] at h
  | some d => 
    cases hi : P.info? t with
    | none => rw [hu, hi] at h; cases d <;> cases h
    | some i => exact ⟨d, i, rfl, by rw [hu, hi] at h; cases d <;> simp_all [aggD], rfl, by rw [hu, hi] at h; cases d <;> simp_all [aggD]⟩
theorem aload_sound {B : Nat} {boxes : List (List AV)} {rows : List (Option Row)} (hr : HR w B S γ ρ boxes rows) {p : AV} {u : Value} {t : TypeId}
    (hp : V w S γ ρ false p u) (h : (aload P t (cellsAt boxes rows p)).2) :
    ∃ x, (Instr.loadAt t u).run P w = .ok x w ∧ V w S γ ρ false (aload P t (cellsAt boxes rows p)).1 x := by
  cases hc : cellsAt boxes rows p with
  | none => rw [hc] at h; cases h
  | some cs =>
    rw [hc] at h
    obtain ⟨ad, rfl, hcell⟩ := cellsAt_sound hr hp hc
    simp only [aload] at h ⊢
    cases hl : ldT P t with
    | none => rw [hl] at h; cases h
    | some o =>
      rw [hl] at h
      cases o with
      | none =>
        obtain ⟨d, hd1, hd2⟩ := ldT_one hl
        have h0 : cs[0]? = some (cs.getD 0 .any) := by rw [List.getD_eq_getElem?_getD]; cases cs <;> simp_all
        obtain ⟨x, hx, hv⟩ := hcell 0 _ h0
        rw [addr_add0] at hx
        refine ⟨x, ?_, hv⟩
        simp [Instr.loadAt, Instr.sureAddr, run_loadVar_one ad t x d hx hd1 hd2]
      | some k =>
        obtain ⟨d, i, hd1, hd2, hi, hk⟩ := ldT_agg hl
        have hk' : k ≤ cs.length := h
        have hex : ∀ (m : Nat), m ≤ cs.length → ∃ us : List Value, us.length = m ∧ ∀ j c u, (cs.take m)[j]? = some c → us[j]? = some u → w.cell? (ad.add j) = some u ∧ V w S γ ρ false c u := by
          intro m
          induction m with
          | zero => intro _; exact ⟨[], rfl, fun j c u h => by simp at h⟩
          | succ m ih =>
            intro hm
            obtain ⟨us, hl1, hus⟩ := ih (by omega)
            obtain ⟨x, hx, hv⟩ := hcell m cs[m] (List.getElem?_eq_getElem (by omega))
            refine ⟨us ++ [x], by simp [hl1], fun j c u h1 h2 => ?_⟩
            by_cases hj : j < m
            · refine hus j c u ?_ ?_
              · rw [List.getElem?_take] at h1 ⊢; rw [if_pos (by omega)] at h1; rw [if_pos hj]; exact h1
              · rw [List.getElem?_append_left (by omega)] at h2; exact h2
            · have hjm : j = m := by
                have : j < (us ++ [x]).length := (List.getElem?_eq_some_iff.1 h2).1
                simp [hl1] at this; omega
              subst hjm
              rw [List.getElem?_append_right (by omega), hl1, Nat.sub_self] at h2
              simp at h2; subst h2
              rw [List.getElem?_take, if_pos (by omega), List.getElem?_eq_getElem (by omega)] at h1
              cases h1
              exact ⟨hx, hv⟩
        obtain ⟨us, hul, hus⟩ := hex k hk'
        refine ⟨.agg us.toArray, ?_, .agg (by simp [hul]; omega) fun j c u h1 h2 => (hus j c u h1 h2).2⟩
        have hrun := run_loadVar_agg (P := P) (w := w) ad t us.toArray d (fun j u hj => by
          have hj' : us[j]? = some u := by simpa using hj
          have hjl : j < us.length := (List.getElem?_eq_some_iff.1 hj').1
          exact (hus j ((cs.take k)[j]'(by simp; omega)) u (List.getElem?_eq_getElem _) hj').1) hd1 hd2 (by rw [hi]; simp [hk, hul])
        simp [Instr.loadAt, Instr.sureAddr, hrun]
end Go.AL
namespace Go.AL
open Go.RowKit
inductive CK where | i | b | s
deriving DecidableEq
def ckV : Value → Option CK
  | .int .. => some .i
  | .bool _ => some .b
  | .string _ => some .s
  | _ => none
def pairEq : Value → Value → Option Bool
  | .int k a, .int k' b => if k = k' then some (a == b) else none
  | .bool a, .bool b => some (a == b)
  | .string a, .string b => some (a == b)
  | _, _ => none
def eqVs : List Value → List Value → Option Bool
  | [], [] => some true
  | a :: as, b :: bs => match pairEq a b, eqVs as bs with
    | some x, some y => some (x && y)
    | _, _ => none
  | _, _ => none
theorem eqVs_len : ∀ {as bs : List Value} {r : Bool}, eqVs as bs = some r → as.length = bs.length
  | [], [], _, _ => rfl
  | a :: as, b :: bs, r, h => by
    simp only [eqVs] at h
    cases h1 : pairEq a b with
    | none => simp [h1] at h
    | some x =>
      cases h2 : eqVs as bs with
      | none => simp [h1, h2] at h
      | some y => simp [eqVs_len h2]
  | [], _ :: _, _, h => by simp [eqVs] at h
  | _ :: _, [], _, h => by simp [eqVs] at h
theorem eqVs_append : ∀ {as bs as' bs' : List Value} {r : Bool}, as.length = bs.length → eqVs (as ++ as') (bs ++ bs') = some r → ∃ x y, eqVs as bs = some x ∧ eqVs as' bs' = some y ∧ r = (x && y)
  | [], [], as', bs', r, _, h => ⟨true, r, rfl, by simpa using h, by simp⟩
  | a :: as, b :: bs, as', bs', r, hl, h => by
    simp only [List.cons_append, eqVs] at h
    cases h1 : pairEq a b with
    | none => simp [h1] at h
    | some p =>
      cases h2 : eqVs (as ++ as') (bs ++ bs') with
      | none => simp [h1, h2] at h
      | some q =>
        simp only [h1, h2, Option.some.injEq] at h
        obtain ⟨x, y, hx, hy, rfl⟩ := eqVs_append (by simpa using hl) h2
        exact ⟨p && x, y, by simp [eqVs, h1, hx], hy, by rw [← h, Bool.and_assoc]⟩
  | [], _ :: _, _, _, _, h, _ => by simp at h
  | _ :: _, [], _, _, _, h, _ => by simp at h
def eqFs (P : Program) (g : TypeId → Option (List CK)) : List Field → Nat → Option (List CK)
  | [], _ => some []
  | f :: fs, off =>
    if f.name ≠ "_" ∧ f.offset = off then
      match g f.type with
      | some sh => match eqFs P g fs (off + sh.length) with
        | some r => some (sh ++ r)
        | none => none
      | none => none
    else none
def eqSh (P : Program) : Nat → TypeId → Option (List CK)
  | 0, _ => none
  | d + 1, t =>
    match P.underlying t with
    | some .bool => some [.b]
    | some (.int _) => some [.i]
    | some .string => some [.s]
    | some (.struct fs) => if P.stoodInHeld t then none else
      match eqFs P (eqSh P d) fs.toList 0 with
      | some sh => if (P.info? t).map (·.size) = some sh.length then some sh else none
      | none => none
    | some (.array n e) => match eqSh P d e with
      | some sh => if (P.info? e).map (·.size) = some sh.length ∧ (P.info? t).map (·.size) = some (n * sh.length) then some ((List.replicate n sh).flatten) else none
      | none => none
    | _ => none
def Seg (xs : Array Value) (off : Nat) (X : List Value) : Prop := (xs.toList.drop off).take X.length = X
theorem seg_split {xs : Array Value} {off : Nat} {X Y : List Value} (h : Seg xs off (X ++ Y)) : Seg xs off X ∧ Seg xs (off + X.length) Y := by
  unfold Seg at *
  constructor
  · have := congrArg (List.take X.length) h
    simp only [List.take_take, List.length_append, List.take_append_of_le_length (Nat.le_refl _), List.take_length] at this
    rw [Nat.min_eq_left (by omega)] at this
    exact this
  · have := congrArg (List.drop X.length) h
    rw [List.length_append, List.drop_take, List.drop_drop] at this
    simp only [List.drop_append, Nat.sub_self, List.drop_zero, List.drop_length, List.nil_append] at this
    rw [Nat.add_sub_cancel_left] at this
    exact this
theorem seg_extract {xs : Array Value} {off : Nat} {X : List Value} (h : Seg xs off X) : xs.extract off (off + X.length) = X.toArray := by
  unfold Seg at h
  apply Array.ext'
  rw [Array.toList_extract, List.extract]
  simpa using h
theorem seg_one {xs : Array Value} {off : Nat} {a : Value} (h : Seg xs off [a]) : xs[off]? = some a := by
  unfold Seg at h
  have : ((xs.toList.drop off).take 1)[0]? = some a := by rw [show (1 : Nat) = [a].length from rfl, h]; rfl
  rw [List.getElem?_take, if_pos (by omega), List.getElem?_drop] at this
  simpa using this
variable {P : Program} (w : World)
theorem run_part_agg {t : TypeId} {d : TypeDesc} {xs : Array Value} {off : Nat} {X : List Value} (hu : P.underlying t = some d) (ha : aggD d = true)
    (hi : (P.info? t).map (·.size) = some X.length) (h : Seg xs off X) : (part t xs off).run P w = .ok (.agg X.toArray) w := by
  have hagg : (isAgg t).run P w = .ok true w := by
    unfold isAgg
    rw [Sem.run_bind, run_underlying hu w]
    cases d <;> simp_all [aggD]
  obtain ⟨i, hi1, hi2⟩ := Option.map_eq_some_iff.1 hi
  simp [part, hagg, sizeOf, typeInfo, hi1, hi2, seg_extract h]
theorem run_part_one {t : TypeId} {d : TypeDesc} {xs : Array Value} {off : Nat} {a : Value} (hu : P.underlying t = some d) (ha : aggD d = false) (h : Seg xs off [a]) :
    (part t xs off).run P w = .ok a w := by
  have hagg : (isAgg t).run P w = .ok false w := by
    unfold isAgg
    rw [Sem.run_bind, run_underlying hu w]
    cases d <;> simp_all [aggD]
  simp [part, hagg, seg_one h]
def eqElems (D : Nat) (e : TypeId) (n : Nat) (xs ys : Array Value) : List Nat → Sem Bool
  | [] => pure true
  | i :: is => do
    let a ← part e xs (i * n)
    let b ← part e ys (i * n)
    let r ← Op.equalIn D e a b
    if (!r) = true then pure false else eqElems D e n xs ys is
theorem run_equalIn_array (D : Nat) (t e : TypeId) (len n : Nat) (xs ys : Array Value) (hu : P.underlying t = some (.array len e)) (hn : (sizeOf e).run P w = .ok n w) :
    (Op.equalIn (D + 1) t (.agg xs) (.agg ys)).run P w = (eqElems D e n xs ys (List.range' 0 len)).run P w := by
  simp only [Op.equalIn, Sem.run_bind, run_underlying hu, Result.andThen_ok, hn]
  simp only [Std.Legacy.Range.forIn_eq_forIn_range', Std.Legacy.Range.size, Nat.sub_zero, Nat.add_one_sub_one, Nat.div_one]
  generalize List.range' 0 len 1 = is
  clear hn hu
  induction is generalizing w with
  | nil => simp [eqElems]
  | cons i is ih =>
    simp only [List.forIn_cons, eqElems, Sem.run_bind, Sem.run_ite]
    generalize (part e xs (i * n)).run P w = r1
    cases r1 with
    | ok a w1 =>
      simp only [Result.andThen_ok]
      generalize (part e ys (i * n)).run P w1 = r2
      cases r2 with
      | ok b w2 =>
        simp only [Result.andThen_ok]
        generalize (Op.equalIn D e a b).run P w2 = r3
        cases r3 with
        | ok r w3 =>
          cases r
          · simp only [Result.andThen_ok, Bool.not_false, if_true, Sem.run_pure]
          · simp only [Result.andThen_ok, Bool.not_true, Bool.false_eq_true, if_false, Sem.run_pure]
            exact ih w3
        | halt x w3 => simp [Result.andThen]
      | halt x w2 => simp [Result.andThen]
    | halt x w1 => simp [Result.andThen]
def SoundAt (P : Program) (w : World) (D : Nat) (t : TypeId) (sh : List CK) : Prop :=
  ∀ (xs ys : Array Value) (o o' : Nat) (X Y : List Value) (r : Bool), Seg xs o X → Seg ys o' Y → X.map ckV = sh.map some → eqVs X Y = some r →
    ∃ a b, (part t xs o).run P w = .ok a w ∧ (part t ys o').run P w = .ok b w ∧ (Op.equalIn D t a b).run P w = .ok r w
theorem map_split {X : List Value} {a b : List CK} (h : X.map ckV = (a ++ b).map some) :
    ∃ X1 X2, X = X1 ++ X2 ∧ X1.map ckV = a.map some ∧ X2.map ckV = b.map some := by
  rw [List.map_append] at h
  obtain ⟨X1, X2, h1, h2, h3⟩ := List.map_eq_append_iff.1 h
  exact ⟨X1, X2, h1, h2, h3⟩
theorem eqFs_sound (g : TypeId → Option (List CK)) (D : Nat) (hg : ∀ t sh, g t = some sh → SoundAt P w D t sh) : ∀ (fs : List Field) (off : Nat) (sh : List CK), eqFs P g fs off = some sh →
    ∀ (xs ys : Array Value) (X Y : List Value) (r : Bool), Seg xs off X → Seg ys off Y → X.map ckV = sh.map some → eqVs X Y = some r →
    (Op.eqFields D xs ys fs).run P w = .ok r w
  | [], off, sh, h, xs, ys, X, Y, r, hX, hY, hk, hr => by
    simp only [eqFs, Option.some.injEq] at h; subst h
    have hX0 : X = [] := by simpa using hk
    subst hX0
    cases Y with
    | nil => simp [eqVs] at hr; subst hr; simp [Op.eqFields]
    | cons y Y => simp [eqVs] at hr
  | f :: fs, off, sh, h, xs, ys, X, Y, r, hX, hY, hk, hr => by
    simp only [eqFs] at h
    split at h
    · rename_i hc
      obtain ⟨hc1, rfl⟩ := hc
      cases h1 : g f.type with
      | none => simp [h1] at h
      | some sh1 =>
        cases h2 : eqFs P g fs (f.offset + sh1.length) with
        | none => simp [h1, h2] at h
        | some sh2 =>
          simp only [h1, h2, Option.some.injEq] at h
          subst h
          obtain ⟨X1, X2, rfl, k1, k2⟩ := map_split hk
          have hl1 : X1.length = sh1.length := by have := congrArg List.length k1; simpa using this
          have hYl := eqVs_len hr
          obtain ⟨Y1, Y2, rfl, hY1⟩ : ∃ Y1 Y2, Y = Y1 ++ Y2 ∧ Y1.length = X1.length := ⟨Y.take X1.length, Y.drop X1.length, by simp, by simp at hYl ⊢; omega⟩
          obtain ⟨x, y, e1, e2, rfl⟩ := eqVs_append hY1.symm hr
          obtain ⟨sX1, sX2⟩ := seg_split hX
          obtain ⟨sY1, sY2⟩ := seg_split hY
          obtain ⟨a, b, p1, p2, p3⟩ := hg _ _ h1 xs ys _ _ X1 Y1 x sX1 sY1 k1 e1
          simp only [Op.eqFields, if_pos hc1, Sem.run_bind, p1, p2, p3, Result.andThen_ok, Sem.run_ite]
          rw [hY1, hl1] at sY2
          rw [hl1] at sX2
          have ih := eqFs_sound g D hg fs _ sh2 h2 xs ys X2 Y2 y sX2 sY2 k2 e2
          cases x
          · simp
          · simpa using ih
    · cases h
theorem eqElems_sound (D : Nat) (e : TypeId) (she : List CK) (hg : SoundAt P w D e she) (xs ys : Array Value) : ∀ (len k : Nat) (X Y : List Value) (r : Bool),
    Seg xs (k * she.length) X → Seg ys (k * she.length) Y → X.map ckV = ((List.replicate len she).flatten).map some → eqVs X Y = some r →
    (eqElems D e she.length xs ys (List.range' k len)).run P w = .ok r w
  | 0, k, X, Y, r, hX, hY, hk, hr => by
    have hX0 : X = [] := by simpa using hk
    subst hX0
    cases Y with
    | nil => simp [eqVs] at hr; subst hr; simp [eqElems]
    | cons y Y => simp [eqVs] at hr
  | len + 1, k, X, Y, r, hX, hY, hk, hr => by
    rw [List.replicate_succ, List.flatten_cons] at hk
    obtain ⟨X1, X2, rfl, k1, k2⟩ := map_split hk
    have hl1 : X1.length = she.length := by have := congrArg List.length k1; simpa using this
    have hYl := eqVs_len hr
    obtain ⟨Y1, Y2, rfl, hY1⟩ : ∃ Y1 Y2, Y = Y1 ++ Y2 ∧ Y1.length = X1.length := ⟨Y.take X1.length, Y.drop X1.length, by simp, by simp at hYl ⊢; omega⟩
    obtain ⟨x, y, e1, e2, rfl⟩ := eqVs_append hY1.symm hr
    obtain ⟨sX1, sX2⟩ := seg_split hX
    obtain ⟨sY1, sY2⟩ := seg_split hY
    obtain ⟨a, b, p1, p2, p3⟩ := hg xs ys _ _ X1 Y1 x sX1 sY1 k1 e1
    rw [List.range'_succ]
    simp only [eqElems, Sem.run_bind, p1, p2, p3, Result.andThen_ok, Sem.run_ite]
    rw [hY1, hl1] at sY2
    rw [hl1] at sX2
    have hs : k * she.length + she.length = (k + 1) * she.length := by rw [Nat.add_mul, Nat.one_mul]
    rw [hs] at sX2 sY2
    have ih := eqElems_sound D e she hg xs ys len (k + 1) X2 Y2 y sX2 sY2 k2 e2
    cases x
    · simp
    · simpa using ih
theorem seg_self (X : List Value) : Seg X.toArray 0 X := by simp [Seg]
theorem eqSh_sound : ∀ (d : Nat) (t : TypeId) (sh : List CK), eqSh P d t = some sh → ∀ (D : Nat), d ≤ D → SoundAt P w D t sh ∧
    ((∃ dd, P.underlying t = some dd ∧ aggD dd = true) → ∀ (X Y : List Value) (r : Bool), X.map ckV = sh.map some → eqVs X Y = some r → (Op.equalIn D t (.agg X.toArray) (.agg Y.toArray)).run P w = .ok r w)
  | 0, _, _, h, _, _ => by simp [eqSh] at h
  | d + 1, t, sh, h, D, hD => by
    obtain ⟨D', rfl⟩ : ∃ D', D = D' + 1 := ⟨D - 1, by omega⟩
    simp only [eqSh] at h
    cases hu : P.underlying t with
    | none => simp [hu] at h
    | some dd =>
      simp only [hu] at h
      cases dd <;> try (simp at h; done)
      case bool =>
        refine ⟨fun xs ys o o' X Y r hX hY hk hr => ?_, fun ⟨dd, h1, h2⟩ => by cases h1; cases h2⟩
        have hlen := eqVs_len hr
        simp only [Option.some.injEq] at h; subst h
        have hXl : X.length = 1 := by have := congrArg List.length hk; simpa using this
        match X, Y, hXl, hlen with
        | [x], [y], _, _ =>
          simp only [List.map_cons, List.map_nil, List.cons.injEq, and_true] at hk
          cases x <;> simp [ckV] at hk
          simp only [eqVs] at hr
          cases y <;> simp [pairEq] at hr
          refine ⟨_, _, run_part_one w hu rfl hX, run_part_one w hu rfl hY, ?_⟩
          rw [run_equalIn_bool' w D' t _ _ hu, ← hr]
      case int k =>
        refine ⟨fun xs ys o o' X Y r hX hY hk hr => ?_, fun ⟨dd, h1, h2⟩ => by cases h1; cases h2⟩
        have hlen := eqVs_len hr
        simp only [Option.some.injEq] at h; subst h
        have hXl : X.length = 1 := by have := congrArg List.length hk; simpa using this
        match X, Y, hXl, hlen with
        | [.int k1 a], [.int k2 b], _, _ =>
          simp only [eqVs, pairEq] at hr
          by_cases hkk : k1 = k2
          · subst hkk
            refine ⟨_, _, run_part_one w hu rfl hX, run_part_one w hu rfl hY, ?_⟩
            simp at hr
            rw [run_equalIn_int w D' t _ _ _ _ hu, ← hr]
          · simp [hkk] at hr
        | [.int k1 a], [.bool b], _, _ => simp [eqVs, pairEq] at hr
        | [.int k1 a], [.string b], _, _ => simp [eqVs, pairEq] at hr
        | [.int k1 a], [.float _ _], _, _ | [.int k1 a], [.complex _ _ _], _, _ | [.int k1 a], [.pointer _], _, _ | [.int k1 a], [.slice _ _ _], _, _ | [.int k1 a], [.map _], _, _ | [.int k1 a], [.chan _], _, _
        | [.int k1 a], [.func _ _ _], _, _ | [.int k1 a], [.nilFunc], _, _ | [.int k1 a], [.iface _ _], _, _ | [.int k1 a], [.nilIface], _, _ | [.int k1 a], [.agg _], _, _ | [.int k1 a], [.tuple _], _, _ => simp [eqVs, pairEq] at hr
        | [.bool _], _, _, _ | [.string _], _, _, _ | [.float _ _], _, _, _ | [.complex _ _ _], _, _, _ | [.pointer _], _, _, _ | [.slice _ _ _], _, _, _ | [.map _], _, _, _ | [.chan _], _, _, _
        | [.func _ _ _], _, _, _ | [.nilFunc], _, _, _ | [.iface _ _], _, _, _ | [.nilIface], _, _, _ | [.agg _], _, _, _ | [.tuple _], _, _, _ => simp [ckV] at hk
      case string =>
        refine ⟨fun xs ys o o' X Y r hX hY hk hr => ?_, fun ⟨dd, h1, h2⟩ => by cases h1; cases h2⟩
        have hlen := eqVs_len hr
        simp only [Option.some.injEq] at h; subst h
        have hXl : X.length = 1 := by have := congrArg List.length hk; simpa using this
        match X, Y, hXl, hlen with
        | [x], [y], _, _ =>
          simp only [List.map_cons, List.map_nil, List.cons.injEq, and_true] at hk
          cases x <;> simp [ckV] at hk
          simp only [eqVs] at hr
          cases y <;> simp [pairEq] at hr
          refine ⟨_, _, run_part_one w hu rfl hX, run_part_one w hu rfl hY, ?_⟩
          rw [run_equalIn_string w D' t _ _ hu, ← hr, beq_toListBytes]
      case array n e =>
        cases he : eqSh P d e with
        | none => simp [he] at h
        | some she =>
          simp only [he] at h
          split at h
          · rename_i hsz
            simp only [Option.some.injEq] at h
            subst h
            obtain ⟨hse, hst⟩ := hsz
            obtain ⟨ie, hie, hies⟩ := Option.map_eq_some_iff.1 hse
            have hso : (sizeOf e).run P w = .ok she.length w := by simp [sizeOf, typeInfo, hie, hies]
            have key : ∀ (X Y : List Value) (r : Bool), X.map ckV = ((List.replicate n she).flatten).map some → eqVs X Y = some r → (Op.equalIn (D' + 1) t (.agg X.toArray) (.agg Y.toArray)).run P w = .ok r w := by
              intro X Y r hk hr
              rw [run_equalIn_array w D' t e n she.length _ _ hu hso]
              exact eqElems_sound w D' e she (eqSh_sound d e she he D' (by omega)).1 _ _ n 0 X Y r (by simpa using seg_self X) (by simpa using seg_self Y) hk hr
            refine ⟨fun xs ys o o' X Y r hX hY hk hr => ?_, fun _ => key⟩
            have hXl : X.length = n * she.length := by have := congrArg List.length hk; simpa using this
            exact ⟨_, _, run_part_agg w hu rfl (by rw [hst, hXl]) hX, run_part_agg w hu rfl (by rw [hst, ← eqVs_len hr, hXl]) hY, key X Y r hk hr⟩
          · cases h
      case struct fs =>
        by_cases hin : P.stoodInHeld t = true
        · simp [hin] at h
        · simp only [hin, Bool.false_eq_true, if_false] at h
          cases hf : eqFs P (eqSh P d) fs.toList 0 with
          | none => simp [hf] at h
          | some sh' =>
            simp only [hf] at h
            split at h
            · rename_i hst
              simp only [Option.some.injEq] at h
              subst h
              have hfo : P.fieldsOf t = fs := by simp [Program.fieldsOf, hu]
              have key : ∀ (X Y : List Value) (r : Bool), X.map ckV = sh'.map some → eqVs X Y = some r → (Op.equalIn (D' + 1) t (.agg X.toArray) (.agg Y.toArray)).run P w = .ok r w := by
                intro X Y r hk hr
                rw [run_equalIn_struct w D' t _ _ (by rw [hfo]; exact hu) (by simpa using hin), hfo]
                exact eqFs_sound w (eqSh P d) D' (fun t sh hg => (eqSh_sound d t sh hg D' (by omega)).1) fs.toList 0 sh' hf _ _ X Y r (seg_self X) (seg_self Y) hk hr
              refine ⟨fun xs ys o o' X Y r hX hY hk hr => ?_, fun _ => key⟩
              have hXl : X.length = sh'.length := by have := congrArg List.length hk; simpa using this
              exact ⟨_, _, run_part_agg w hu rfl (by rw [hst, hXl]) hX, run_part_agg w hu rfl (by rw [hst, ← eqVs_len hr, hXl]) hY, key X Y r hk hr⟩
            · cases h
end Go.AL
