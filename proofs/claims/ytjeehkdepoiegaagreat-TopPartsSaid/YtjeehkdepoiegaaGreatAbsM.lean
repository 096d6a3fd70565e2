/-
  The abstract layer, drawn regions that write memory of the call's own. Over whatever program; no program in sight.
-/
import Derived.Test.YtjeehkdepoiegaaGreatAbsD
set_option linter.unusedSimpArgs false
set_option linter.unusedVariables false
set_option linter.constructorNameAsVariable false
namespace Go.AL
open Go.RowKit
set_option linter.unusedSimpArgs false
set_option linter.unusedVariables false
/-! ### regions whose order is drawn, and that write memory of the call's own -/
def memN : Op → Bool
  | .load _ _ => false
  | .call ⟨.value _, _, _⟩ => false
  | .alloc _ => false
  | .store _ _ _ => false
  | _ => true
def isSt : Op → Bool
  | .store _ _ _ => true
  | _ => false
def isAl : Op → Bool
  | .alloc _ => true
  | _ => false
def okPair (ro : Bool) (x y : Op) : Bool := (ro && ((!isSt x && !isAl x && isSt y) || (isSt x && !isSt y && !isAl y))) || ((memN x || (!isSt x && !isAl x)) && !isSt y) || memN y || (memN x && isSt y) || (isSt x && isAl y)
def memB (al : Bool × Bool) (ops : Array Oper) : Bool :=
  ((List.range ops.size).all fun i => match ops[i]? with
    | some oi => al.1 || !isAl oi.op
    | none => true) &&
  (List.range ops.size).all fun i => (List.range ops.size).all fun j => match ops[i]?, ops[j]? with
    | some oi, some oj => Nat.ble j i || oj.after.any (fun e => Region.binds .any e && e.on == i) || okPair al.2 oi.op oj.op
    | _, _ => true
theorem memB_al {al : Bool × Bool} {ops : Array Oper} (h : memB al ops = true) {i : Nat} {oi : Oper} (hi : ops[i]? = some oi) (ha : isAl oi.op = true) : al.1 = true := by
  simp only [memB, Bool.and_eq_true, List.all_eq_true, List.mem_range] at h
  have := h.1 i (Array.getElem?_eq_some_iff.1 hi).1
  rw [hi] at this
  simpa [ha] using this
theorem memB_pair {al : Bool × Bool} {ops : Array Oper} (h : memB al ops = true) {i j : Nat} {oi oj : Oper} (hi : ops[i]? = some oi) (hj : ops[j]? = some oj) (hij : i < j)
    (hno : ∀ e ∈ oj.after, Region.binds .any e = true → e.on ≠ i) : okPair al.2 oi.op oj.op = true := by
  simp only [memB, Bool.and_eq_true, List.all_eq_true, List.mem_range] at h
  have := h.2 i (Array.getElem?_eq_some_iff.1 hi).1 j (Array.getElem?_eq_some_iff.1 hj).1
  rw [hi, hj] at this
  simp only [Bool.or_eq_true] at this
  rcases this with (h1 | h1) | h1
  · exact absurd (Nat.le_of_ble_eq_true h1) (by omega)
  · obtain ⟨e, he, hb⟩ := Array.any_eq_true'.1 h1
    simp only [Bool.and_eq_true, beq_iff_eq] at hb
    exact absurd hb.2 (hno e he hb.1)
  · exact h1
variable {P : Program} {n : Nat}
def lowEv (nb nr : Nat) (ev : Operand → AV) : List Operand → Prop
  | [] => True
  | x :: xs => (un (ev x)).lowB nb nr = true ∧ lowEv nb nr ev xs
theorem lowEv_mem {nb nr : Nat} {ev : Operand → AV} : ∀ {xs : List Operand}, lowEv nb nr ev xs → ∀ x ∈ xs, (un (ev x)).lowB nb nr = true
  | [], _, x, hx => by cases hx
  | y :: xs, h, x, hx => by
    rcases List.mem_cons.1 hx with rfl | hx
    · exact h.1
    · exact lowEv_mem h.2 x hx
theorem lowEv_of {nb nr : Nat} {ev : Operand → AV} : ∀ {xs : List Operand}, (∀ x ∈ xs, (un (ev x)).lowB nb nr = true) → lowEv nb nr ev xs
  | [], _ => trivial
  | y :: xs, h => ⟨h y (by simp), lowEv_of fun x hx => h x (by simp [hx])⟩
mutual
theorem lowB_up {nb nb' nr : Nat} (hle : nb ≤ nb') : ∀ (a : AV), a.lowB nb nr = true → a.lowB nb' nr = true
  | .own r sz off len, h => by simpa [AV.lowB] using h
  | .rp r sz i f, h => by simpa [AV.lowB] using h
  | .bp b off, h => by simp [AV.lowB, Nat.blt] at *; omega
  | .agg cs, h => by simp only [AV.lowB] at *; exact lowL_up hle cs h
  | .tup cs, h => by simp only [AV.lowB] at *; exact lowL_up hle cs h
  | .fn g cs, h => by simp only [AV.lowB] at *; exact lowL_up hle cs h
  | .opt p v, h => by simp only [AV.lowB] at *; exact lowB_up hle v h
  | .any, _ => rfl
  | .lit _, _ => rfl
  | .ro _ _, _ => rfl
  | .rop _, _ => rfl
theorem lowL_up {nb nb' nr : Nat} (hle : nb ≤ nb') : ∀ (cs : List AV), lowL nb nr cs = true → lowL nb' nr cs = true
  | [], _ => rfl
  | c :: cs, h => by
    simp only [lowL, Bool.and_eq_true] at *
    exact ⟨lowB_up hle c h.1, lowL_up hle cs h.2⟩
end
theorem getD_app {α : Type} {B : List α} {z d : α} {b : Nat} (h : b < B.length) : (B ++ [z]).getD b d = B.getD b d := by
  simp only [List.getD_eq_getElem?_getD]; rw [List.getElem?_append_left h]
theorem lend_app {B : List (List AV)} {z : List AV} {R : List (Option Row)} {v : AV} (h : v.lowB B.length R.length = true) : v.lend (B ++ [z]) R = v.lend B R := by
  cases v <;> try rfl
  rename_i b off
  simp only [AV.lowB, Nat.blt] at h
  simp only [AV.lend]
  rw [getD_app (Nat.le_of_ble_eq_true h)]
theorem cellsAt_app {B : List (List AV)} {z : List AV} {R : List (Option Row)} {v : AV} (h : v.lowB B.length R.length = true) : cellsAt (B ++ [z]) R v = cellsAt B R v := by
  cases v <;> try rfl
  rename_i b off
  simp only [AV.lowB, Nat.blt] at h
  simp only [cellsAt]
  rw [List.getElem?_append_left (Nat.le_of_ble_eq_true h)]
theorem apureE_memN {B B' : List (List AV)} {R R' : List (Option Row)} {ev : Operand → AV} {c : Bool} {op : Op} {K : AV → Prop} (h : memN op = true) (hp : apureE P B R ev c op K) : apureE P B' R' ev c op K := by
  cases op <;> first | exact hp | (cases h; done) | skip
  rename_i cl
  obtain ⟨f, args, ts⟩ := cl
  cases f <;> first | exact hp | (cases h; done)
theorem apureE_app {B : List (List AV)} {z : List AV} {R : List (Option Row)} {ev : Operand → AV} {c : Bool} {op : Op} {K : AV → Prop} (hl : lowEv B.length R.length ev op.operands.toList) (hp : apureE P B R ev c op K) : apureE P (B ++ [z]) R ev c op K := by
  replace hl := lowEv_mem hl
  cases op <;> try exact hp
  case load t x =>
    have hx := hl x (by simp [Op.operands])
    unfold apureE at *
    simp only at *
    simp only [ares] at *
    rw [cellsAt_app hx]; exact hp
  case call cl =>
    obtain ⟨f, args, ts⟩ := cl
    cases f <;> try exact hp
    case value f =>
      have hf := hl f (by simp [Op.operands, Call.operands])
      have ha : ∀ x ∈ args.toList, (un (ev x)).lowB B.length R.length = true := fun x hx => hl x (by simp [Op.operands, Call.operands]; exact .inr (by simpa using hx))
      unfold apureE at *
      simp only at *
      cases hg : fnOf (un (ev f)) with
      | none => rw [hg] at hp; exact hp.elim
      | some g =>
        rw [hg] at hp
        simp only at *
        obtain ⟨h1, h2, r, h3, h4⟩ := hp
        refine ⟨h1, h2, r, fun hc => ?_, h4⟩
        have e1 : (args.toList.map fun x => (un (ev x)).lend (B ++ [z]) R) = args.toList.map fun x => (un (ev x)).lend B R := List.map_congr_left fun x hx => lend_app (ha x hx)
        have e2 : g.2.map (AV.lend (B ++ [z]) R) = g.2.map (AV.lend B R) := by
          refine List.map_congr_left fun x hx => lend_app ?_
          generalize hv : un (ev f) = v at hf hg
          unfold fnOf at hg
          split at hg
          · split at hg
            · cases hg; cases hx
            · cases hg
          · cases hg
            simp only [AV.lowB] at hf
            exact lowL_mem hf x hx
          · cases hg
        rw [e1, e2]; exact h3 hc
theorem apureD_memN {B B' : List (List AV)} {R R' : List (Option Row)} {ev : Operand → AV} {c : Bool} {op : Op} {K : AV → Prop} (h : memN op = true) (hp : apureD P B R ev c op K) : apureD P B' R' ev c op K := by
  rcases hp with h1 | h1 | h1
  · exact .inl h1
  · exact .inr (.inl (apureE_memN h h1))
  · exact .inr (.inr h1)
theorem apureD_app {B : List (List AV)} {z : List AV} {R : List (Option Row)} {ev : Operand → AV} {c : Bool} {op : Op} {K : AV → Prop} (hl : lowEv B.length R.length ev op.operands.toList) (hp : apureD P B R ev c op K) : apureD P (B ++ [z]) R ev c op K := by
  rcases hp with h1 | h1 | h1
  · exact .inl h1
  · exact .inr (.inl (apureE_app hl h1))
  · exact .inr (.inr h1)
def wres (P : Program) (B : List (List AV)) (R : List (Option Row)) (ev : Operand → AV) : Op → (AV × List (List AV) × List (Option Row)) × Prop
  | .alloc t => match zeroL P t with
    | some z => ((.bp B.length 0, B ++ [z.map .lit], R), (z.all fun v => v.oneCell') = true)
    | none => ((.any, B, R), False)
  | .store t p x => match acells (un (ev x)), un (ev p) with
    | some cs, .bp b off => ((.any, B.set b (splice (B.getD b []) off cs), R), uok true (ev x) ∧ uok true (ev p) ∧ szT P t = some cs.length ∧ cs.all AV.one = true ∧ b < B.length ∧ off + cs.length ≤ (B.getD b []).length)
    | some cs, .rp r sz i f => match getRow R r sz with
      | some rw_ => ((.any, B, R.set r (some { rw_ with elems := rw_.elems.set i (splice (rw_.elems.getD i []) f cs) })), uok true (ev x) ∧ uok true (ev p) ∧ szT P t = some cs.length ∧ cs.all AV.one = true ∧ i < rw_.elems.length ∧ f + cs.length ≤ sz ∧ cs.all AV.cl = true)
      | none => ((.any, B, R), False)
    | _, _ => ((.any, B, R), False)
  | _ => ((.any, B, R), False)
theorem wres_congr {B : List (List AV)} {R : List (Option Row)} {ev ev' : Operand → AV} {op : Op} (h : ∀ x ∈ op.operands.toList, ev x = ev' x) : wres P B R ev op = wres P B R ev' op := by
  cases op <;> try rfl
  rename_i t p x
  simp only [wres]
  rw [h p (by simp [Op.operands]), h x (by simp [Op.operands])]
theorem wres_kind {B : List (List AV)} {R : List (Option Row)} {ev : Operand → AV} {op : Op} (h : (wres P B R ev op).2) : isSt op = true ∨ isAl op = true := by
  cases op <;> first | (exact .inl rfl) | (exact .inr rfl) | exact h.elim
structure DSt where
  f : Nat → AV
  B : List (List AV)
  R : List (Option Row)
def stepM (P : Program) (n : Nat) (al : Bool × Bool) (all : List Oper) (o : Oper) (s s' : DSt) : Prop :=
  ((isSt o.op = false ∧ isAl o.op = false) ∧ ((al.1 = true → memN o.op = false → lowEv s.B.length s.R.length (evF s.f) o.op.operands.toList) ∧ (al.2 = true → memN o.op = false → lowEv 0 0 (evF s.f) o.op.operands.toList)) ∧ ∃ v, stepV P n s.B s.R all o s.f v ∧ s' = ⟨updO s.f o.dst v, s.B, s.R⟩) ∨
  (o.guard = none ∧ dok n o.dst ∧ (wres P s.B s.R (evF s.f) o.op).2 ∧ s' = ⟨updO s.f o.dst (wres P s.B s.R (evF s.f) o.op).1.1, (wres P s.B s.R (evF s.f) o.op).1.2.1, (wres P s.B s.R (evF s.f) o.op).1.2.2⟩)
theorem evF_upd {o : Oper} {all : List Oper} {f : Nat → AV} {dst : Option Nat} {u : AV} (h : ∀ d, dst = some d → d ∉ o.looksAt all.toArray) : ∀ x ∈ o.op.operands.toList, evF (updO f dst u) x = evF f x := by
  intro x hx
  cases x <;> try rfl
  rename_i t
  simp only [evF]
  rw [updO_ne]
  intro e
  exact h t e (List.mem_append_left _ (List.mem_filterMap.2 ⟨.tmp t, hx, rfl⟩))
theorem lowEv_congr {nb nr : Nat} {ev ev' : Operand → AV} {xs : List Operand} (h : ∀ x ∈ xs, ev' x = ev x) (hl : lowEv nb nr ev xs) : lowEv nb nr ev' xs :=
  lowEv_of fun x hx => by rw [h x hx]; exact lowEv_mem hl x hx
theorem stepV_memN {B B' : List (List AV)} {R R' : List (Option Row)} {all : List Oper} {o : Oper} {f : Nat → AV} {v : AV} (h : memN o.op = true) (hs : stepV P n B R all o f v) : stepV P n B' R' all o f v := by
  obtain ⟨h1, h2⟩ := hs
  refine ⟨h1, ?_⟩
  cases hg : o.guard with
  | none => rw [hg] at h2; exact apureD_memN h h2
  | some jw =>
    obtain ⟨j, want⟩ := jw
    rw [hg] at h2
    obtain ⟨g, c, x, e1, e2, e3, e4⟩ := h2
    exact ⟨g, c, x, e1, e2, apureD_memN h e3, e4⟩
theorem stepV_app {B : List (List AV)} {z : List AV} {R : List (Option Row)} {all : List Oper} {o : Oper} {f : Nat → AV} {v : AV} (h : lowEv B.length R.length (evF f) o.op.operands.toList) (hs : stepV P n B R all o f v) : stepV P n (B ++ [z]) R all o f v := by
  obtain ⟨h1, h2⟩ := hs
  refine ⟨h1, ?_⟩
  cases hg : o.guard with
  | none => rw [hg] at h2; exact apureD_app h h2
  | some jw =>
    obtain ⟨j, want⟩ := jw
    rw [hg] at h2
    obtain ⟨g, c, x, e1, e2, e3, e4⟩ := h2
    exact ⟨g, c, x, e1, e2, apureD_app h e3, e4⟩
theorem wres_app {B : List (List AV)} {R : List (Option Row)} {ev : Operand → AV} {z : List AV} {op : Op} (hs : isSt op = true) (h : (wres P B R ev op).2) :
    (wres P (B ++ [z]) R ev op).2 ∧ (wres P (B ++ [z]) R ev op).1 = ((wres P B R ev op).1.1, (wres P B R ev op).1.2.1 ++ [z], (wres P B R ev op).1.2.2) ∧ (wres P B R ev op).1.2.1.length = B.length := by
  cases op <;> try (cases hs; done)
  rename_i t p x
  simp only [wres] at h ⊢
  cases hx : acells (un (ev x)) with
  | none => rw [hx] at h; exact h.elim
  | some cs =>
    rw [hx] at h
    generalize un (ev p) = q at h ⊢
    cases q <;> try exact h.elim
    · rename_i r sz i f
      simp only at h ⊢
      cases hg : getRow R r sz with
      | none => rw [hg] at h; exact h.elim
      | some rw_ =>
        rw [hg] at h
        exact ⟨h, rfl, rfl⟩
    · rename_i b off
      simp only at h ⊢
      obtain ⟨h1, h2, h3, h4, h5, h6⟩ := h
      rw [getD_app h5]
      refine ⟨⟨h1, h2, h3, h4, by simp; omega, h6⟩, ?_, by simp⟩
      rw [List.set_append_left _ _ h5]
theorem wres_al {B : List (List AV)} {R : List (Option Row)} {ev : Operand → AV} {op : Op} (ha : isAl op = true) (h : (wres P B R ev op).2) :
    ∃ z, (∀ (B' : List (List AV)) (R' : List (Option Row)) (ev' : Operand → AV), (wres P B' R' ev' op).2 ∧ (wres P B' R' ev' op).1 = (.bp B'.length 0, B' ++ [z], R')) := by
  cases op <;> try (cases ha; done)
  rename_i t
  simp only [wres] at h ⊢
  cases hz : zeroL P t with
  | none => rw [hz] at h; exact h.elim
  | some z =>
    rw [hz] at h
    exact ⟨z.map .lit, fun B' R' ev' => ⟨h, rfl⟩⟩
mutual
theorem bor_ro {R R' : List (Option Row)} : ∀ (v : AV), v.lowB 0 0 = true → AV.bor R' v = AV.bor R v
  | .own r sz off len, h => by simp [AV.lowB, Nat.blt, Nat.ble] at h
  | .rp r sz i f, _ => by simp only [AV.bor]
  | .bp b off, _ => by simp only [AV.bor]
  | .agg cs, h => by simp only [AV.lowB] at h; simp only [AV.bor]; rw [borL_ro cs h]
  | .tup cs, h => by simp only [AV.lowB] at h; simp only [AV.bor]; rw [borL_ro cs h]
  | .fn g cs, h => by simp only [AV.lowB] at h; simp only [AV.bor]; rw [borL_ro cs h]
  | .opt p v, _ => by simp only [AV.bor]
  | .any, _ => by simp only [AV.bor]
  | .lit _, _ => by simp only [AV.bor]
  | .ro _ _, _ => by simp only [AV.bor]
  | .rop _, _ => by simp only [AV.bor]
theorem borL_ro {R R' : List (Option Row)} : ∀ (cs : List AV), lowL 0 0 cs = true → borL R' cs = borL R cs
  | [], _ => by simp only [borL]
  | c :: cs, h => by
    simp only [lowL, Bool.and_eq_true] at h
    simp only [borL]
    rw [bor_ro c h.1, borL_ro cs h.2]
end
mutual
theorem lowB_up0 {nb nr : Nat} : ∀ (a : AV), a.lowB 0 0 = true → a.lowB nb nr = true
  | .own r sz off len, h => by simp [AV.lowB, Nat.blt, Nat.ble] at h
  | .rp r sz i f, h => by simp [AV.lowB, Nat.blt, Nat.ble] at h
  | .bp b off, h => by simp [AV.lowB, Nat.blt, Nat.ble] at h
  | .agg cs, h => by simp only [AV.lowB] at *; exact lowL_up0 cs h
  | .tup cs, h => by simp only [AV.lowB] at *; exact lowL_up0 cs h
  | .fn g cs, h => by simp only [AV.lowB] at *; exact lowL_up0 cs h
  | .opt p v, h => by simp only [AV.lowB] at *; exact lowB_up0 v h
  | .any, _ => rfl
  | .lit _, _ => rfl
  | .ro _ _, _ => rfl
  | .rop _, _ => rfl
theorem lowL_up0 {nb nr : Nat} : ∀ (cs : List AV), lowL 0 0 cs = true → lowL nb nr cs = true
  | [], _ => rfl
  | c :: cs, h => by
    simp only [lowL, Bool.and_eq_true] at *
    exact ⟨lowB_up0 c h.1, lowL_up0 cs h.2⟩
end
theorem lend_ro {B B' : List (List AV)} {R R' : List (Option Row)} {v : AV} (h : v.lowB 0 0 = true) : v.lend B' R' = v.lend B R := by
  have hb := bor_ro (R := R) (R' := R') v h
  cases v <;> first | exact hb | rfl | (simp [AV.lowB, Nat.blt, Nat.ble] at h; done)
theorem cellsAt_ro {B B' : List (List AV)} {R R' : List (Option Row)} {v : AV} (h : v.lowB 0 0 = true) : cellsAt B' R' v = cellsAt B R v := by
  cases v <;> first | rfl | (simp [AV.lowB, Nat.blt, Nat.ble] at h; done)
theorem apureE_ro {B B' : List (List AV)} {R R' : List (Option Row)} {ev : Operand → AV} {c : Bool} {op : Op} {K : AV → Prop} (hl : lowEv 0 0 ev op.operands.toList) (hp : apureE P B R ev c op K) : apureE P B' R' ev c op K := by
  by_cases hN : memN op = true
  · exact apureE_memN hN hp
  replace hl := lowEv_mem hl
  cases op <;> first | (exact absurd rfl hN) | skip
  case load t x =>
    have hx := hl x (by simp [Op.operands])
    unfold apureE at *
    simp only at *
    simp only [ares] at *
    rw [cellsAt_ro (B := B) (R := R) hx]; exact hp
  case alloc => exact hp
  case store => exact hp
  case call cl =>
    obtain ⟨f, args, ts⟩ := cl
    cases f <;> try exact hp
    case value f =>
      have hf := hl f (by simp [Op.operands, Call.operands])
      have ha : ∀ x ∈ args.toList, (un (ev x)).lowB 0 0 = true := fun x hx => hl x (by simp [Op.operands, Call.operands]; exact .inr (by simpa using hx))
      unfold apureE at *
      simp only at *
      cases hg : fnOf (un (ev f)) with
      | none => rw [hg] at hp; exact hp.elim
      | some g =>
        rw [hg] at hp
        simp only at *
        obtain ⟨h1, h2, r, h3, h4⟩ := hp
        refine ⟨h1, h2, r, fun hc => ?_, h4⟩
        have e1 : (args.toList.map fun x => (un (ev x)).lend B' R') = args.toList.map fun x => (un (ev x)).lend B R := List.map_congr_left fun x hx => lend_ro (ha x hx)
        have e2 : g.2.map (AV.lend B' R') = g.2.map (AV.lend B R) := by
          refine List.map_congr_left fun x hx => lend_ro ?_
          generalize hv : un (ev f) = v at hf hg
          unfold fnOf at hg
          split at hg
          · split at hg
            · cases hg; cases hx
            · cases hg
          · cases hg
            simp only [AV.lowB] at hf
            exact lowL_mem hf x hx
          · cases hg
        rw [e1, e2]; exact h3 hc
theorem stepV_ro {B B' : List (List AV)} {R R' : List (Option Row)} {all : List Oper} {o : Oper} {f : Nat → AV} {v : AV} (h : lowEv 0 0 (evF f) o.op.operands.toList) (hs : stepV P n B R all o f v) : stepV P n B' R' all o f v := by
  have key : ∀ {c : Bool} {K : AV → Prop}, apureD P B R (evF f) c o.op K → apureD P B' R' (evF f) c o.op K := fun hp => by
    rcases hp with h1 | h1 | h1
    · exact .inl h1
    · exact .inr (.inl (apureE_ro h h1))
    · exact .inr (.inr h1)
  obtain ⟨h1, h2⟩ := hs
  refine ⟨h1, ?_⟩
  cases hg : o.guard with
  | none => rw [hg] at h2; exact key h2
  | some jw =>
    obtain ⟨j, want⟩ := jw
    rw [hg] at h2
    obtain ⟨g, c, x, e1, e2, e3, e4⟩ := h2
    exact ⟨g, c, x, e1, e2, key e3, e4⟩
theorem stepM_comm {al : Bool × Bool} {all : List Oper} {oi oj : Oper} {s s1 s2 : DSt} (hap : oi.apart all.toArray oj = true) (hok : okPair al.2 oi.op oj.op = true) (hal : isAl oj.op = true → al.1 = true)
    (h1 : stepM P n al all oi s s1) (h2 : stepM P n al all oj s1 s2) : ∃ s', stepM P n al all oj s s' ∧ stepM P n al all oi s' s2 := by
  obtain ⟨a1, a2, a3⟩ := Oper.apart_spec hap
  obtain ⟨f, B, R⟩ := s
  rcases h1 with ⟨⟨ns, na⟩, hl, v, hv, rfl⟩ | ⟨hg, hd, hw, rfl⟩
  · rcases h2 with ⟨⟨ns2, na2⟩, hl2, u, hu, rfl⟩ | ⟨hg2, hd2, hw2, rfl⟩
    · -- both without writing
      simp only at *
      refine ⟨⟨updO f oj.dst u, B, R⟩, .inl ⟨⟨ns2, na2⟩, ⟨fun e1 e2 => lowEv_congr (fun x hx => (evF_upd a1 x hx).symm) (hl2.1 e1 e2), fun e1 e2 => lowEv_congr (fun x hx => (evF_upd a1 x hx).symm) (hl2.2 e1 e2)⟩, u, stepV_back a1 hu, rfl⟩, .inl ⟨⟨ns, na⟩, ⟨fun e1 e2 => lowEv_congr (evF_upd a3) (hl.1 e1 e2), fun e1 e2 => lowEv_congr (evF_upd a3) (hl.2 e1 e2)⟩, v, stepV_put a3 hv, ?_⟩⟩
      rw [updO_comm f v u a2]
    · simp only at *
      have hc : wres P B R (evF (updO f oi.dst v)) oj.op = wres P B R (evF f) oj.op := wres_congr (evF_upd a1)
      rw [hc] at hw2
      simp only [hc]
      rcases wres_kind hw2 with hk | hk
      · -- a store later: the first does not look at memory, or not at the call's own
        have hN : memN oi.op = true ∨ (al.2 = true ∧ memN oi.op = false) := by
          cases hm : memN oi.op with
          | true => exact .inl rfl
          | false =>
            have hk2 : memN oj.op = false := by revert hk; cases oj.op <;> simp [isSt, memN]
            have hk3 : isAl oj.op = false := by revert hk; cases oj.op <;> simp [isSt, isAl]
            simp only [okPair, hk, hk2, hk3, ns, na, hm] at hok
            exact .inr ⟨by simpa using hok, rfl⟩
        have hlen : (wres P B R (evF f) oj.op).1.2.1.length = B.length := (wres_app (z := []) hk hw2).2.2
        have hlow : ∀ {nb nr : Nat}, lowEv 0 0 (evF f) oi.op.operands.toList → lowEv nb nr (evF f) oi.op.operands.toList := fun h => lowEv_of fun x hx => lowB_up0 _ (lowEv_mem h x hx)
        refine ⟨_, .inr ⟨hg2, hd2, hw2, rfl⟩, .inl ⟨⟨ns, na⟩, ⟨fun _ e2 => ?_, fun e1 e2 => lowEv_congr (evF_upd a3) (hl.2 e1 e2)⟩, v, ?_, ?_⟩⟩
        · rcases hN with hN | ⟨hN, hm⟩
          · rw [hN] at e2; cases e2
          · exact lowEv_congr (evF_upd a3) (hlow (hl.2 hN hm))
        · rcases hN with hN | ⟨hN, hm⟩
          · exact stepV_memN hN (stepV_put a3 hv)
          · exact stepV_ro (lowEv_congr (evF_upd a3) (hl.2 hN hm)) (stepV_put a3 hv)
        simp only
        rw [updO_comm f v _ a2]
      · obtain ⟨z, hz⟩ := wres_al hk hw2
        refine ⟨_, .inr ⟨hg2, hd2, hw2, rfl⟩, .inl ⟨⟨ns, na⟩, ⟨fun e1 e2 => ?_, fun e1 e2 => lowEv_congr (evF_upd a3) (hl.2 e1 e2)⟩, v, ?_, ?_⟩⟩
        · simp only [(hz B R (evF f)).2]
          refine lowEv_congr (evF_upd a3) ?_
          exact lowEv_of fun x hx => lowB_up (by simp) _ (lowEv_mem (hl.1 e1 e2) x hx)
        · simp only [(hz B R (evF f)).2]
          by_cases hN : memN oi.op = true
          · exact stepV_memN hN (stepV_put a3 hv)
          · exact stepV_app (lowEv_congr (evF_upd a3) (hl.1 (hal hk) (by simpa using hN))) (stepV_put a3 hv)
        · simp only
          rw [updO_comm f v _ a2]
  · simp only at *
    rcases h2 with ⟨⟨ns2, na2⟩, hl2, u, hu, rfl⟩ | ⟨hg2, hd2, hw2, rfl⟩
    · -- the later one does not look at memory, or not at the call's own
      have hN : memN oj.op = true ∨ (al.2 = true ∧ memN oj.op = false) := by
        cases hm : memN oj.op with
        | true => exact .inl rfl
        | false =>
          rcases wres_kind hw with hk | hk
          · have hk2 : memN oi.op = false := by revert hk; cases oi.op <;> simp [isSt, memN]
            have hk3 : isAl oi.op = false := by revert hk; cases oi.op <;> simp [isSt, isAl]
            simp only [okPair, hk, hk2, hk3, na2, ns2, hm] at hok
            exact .inr ⟨by simpa using hok, rfl⟩
          · have hk2 : memN oi.op = false := by revert hk; cases oi.op <;> simp [isAl, memN]
            have hk3 : isSt oi.op = false := by revert hk; cases oi.op <;> simp [isAl, isSt]
            simp only [okPair, hk, hk2, hk3, na2, ns2, hm] at hok
            simp at hok
      have hlow : ∀ {nb nr : Nat} {g : Nat → AV}, lowEv 0 0 (evF g) oj.op.operands.toList → lowEv nb nr (evF g) oj.op.operands.toList := fun h => lowEv_of fun x hx => lowB_up0 _ (lowEv_mem h x hx)
      simp only at *
      have hc : wres P B R (evF (updO f oj.dst u)) oi.op = wres P B R (evF f) oi.op := wres_congr (evF_upd a3)
      have hb : al.2 = true → memN oj.op = false → lowEv 0 0 (evF f) oj.op.operands.toList := fun e1 e2 => lowEv_congr (fun x hx => (evF_upd a1 x hx).symm) (hl2.2 e1 e2)
      refine ⟨⟨updO f oj.dst u, B, R⟩, .inl ⟨⟨ns2, na2⟩, ⟨fun _ e2 => ?_, hb⟩, u, ?_, rfl⟩, .inr ⟨hg, hd, by simp only; rw [hc]; exact hw, ?_⟩⟩
      · rcases hN with hN | ⟨hN, hm⟩
        · rw [hN] at e2; cases e2
        · exact hlow (hb hN hm)
      · rcases hN with hN | ⟨hN, hm⟩
        · exact stepV_memN hN (stepV_back a1 hu)
        · exact stepV_ro (hb hN hm) (stepV_back a1 hu)
      simp only [hc]
      rw [updO_comm f _ u a2]
    · simp only at *
      have hk : isSt oi.op = true ∧ isAl oj.op = true := by
        have hj : memN oj.op = false := by rcases wres_kind hw2 with hk | hk <;> (revert hk; cases oj.op <;> simp [isSt, isAl, memN])
        have hi : memN oi.op = false := by rcases wres_kind hw with hk | hk <;> (revert hk; cases oi.op <;> simp [isSt, isAl, memN])
        have hi2 : (!isSt oi.op && !isAl oi.op) = false := by rcases wres_kind hw with hk | hk <;> simp [hk]
        simp only [okPair, hi, hj, hi2] at hok
        rcases wres_kind hw2 with hk | hk
        · simp [hk] at hok
          exact ⟨hok.1, hok.2⟩
        · simpa [hk] using hok
      obtain ⟨z, hz⟩ := wres_al hk.2 hw2
      have h3 := wres_app (z := z) hk.1 hw
      have hc : wres P (B ++ [z]) R (evF (updO f oj.dst (.bp B.length 0))) oi.op = wres P (B ++ [z]) R (evF f) oi.op := wres_congr (evF_upd a3)
      refine ⟨⟨updO f oj.dst (.bp B.length 0), B ++ [z], R⟩, .inr ⟨hg2, hd2, (hz _ _ _).1, by simp only [(hz B R (evF f)).2]⟩, .inr ⟨hg, hd, by simp only; rw [hc]; exact h3.1, ?_⟩⟩
      simp only [hc, (hz _ _ _).2, h3.2.1, h3.2.2]
      rw [updO_comm f _ _ a2]
def qG (P : Program) (n : Nat) (al : Bool × Bool) (all : List Oper) (i : Nat) (K : DSt → Prop) (s : DSt) : Prop :=
  match all[i]? with
  | none => K s
  | some o => ∃ s', stepM P n al all o s s' ∧ K s'
def wpAnyG (P : Program) (n : Nat) (al : Bool × Bool) (all : List Oper) (md : Region.Mode) (Q : DSt → Prop) : Nat → Array Bool → DSt → Prop
  | 0, listed, s => Region.ready md all.toArray listed = [] ∧ Q s
  | fuel + 1, listed, s =>
    (Region.ready md all.toArray listed = [] → Q s) ∧
    ∀ i ∈ Region.ready md all.toArray listed, qG P n al all i (wpAnyG P n al all md Q fuel (listed.setIfInBounds i true)) s
theorem wpAnyG_first {al : Bool × Bool} {all : List Oper} {md : Region.Mode} {Q : DSt → Prop} {i : Nat} {oi : Oper} (hi : all[i]? = some oi) (hal : ∀ (j : Nat) (o : Oper), all[j]? = some o → isAl o.op = true → al.1 = true) :
    ∀ (fuel : Nat) (listed : Array Bool) (s s1 : DSt),
      (∀ j oj, all.toArray[j]? = some oj → j ≠ i → listed.getD j true = false → (∀ e ∈ oj.after, Region.binds md e = true → e.on ≠ i) → oi.apart all.toArray oj = true ∧ okPair al.2 oi.op oj.op = true) →
      i ∈ Region.ready md all.toArray listed → stepM P n al all oi s s1 →
      wpAnyG P n al all md Q fuel (listed.setIfInBounds i true) s1 → wpAnyG P n al all md Q (fuel + 1) listed s := by
  have take : ∀ {K : DSt → Prop} {s s1 : DSt}, stepM P n al all oi s s1 → K s1 → qG P n al all i K s := by
    intro K s s1 hy h
    unfold qG
    simp only [hi]
    exact ⟨s1, hy, h⟩
  intro fuel
  induction fuel with
  | zero =>
    intro listed s s1 _ hr hy H
    refine ⟨fun h => (by rw [h] at hr; cases hr), fun j hj => ?_⟩
    by_cases hji : j = i
    · subst hji; exact take hy H
    · have := ready_mono hj hji
      rw [H.1] at this
      cases this
  | succ fuel ih =>
    intro listed s s1 hfree hr hy H
    refine ⟨fun h => (by rw [h] at hr; cases hr), fun j hj => ?_⟩
    by_cases hji : j = i
    · subst hji; exact take hy H
    · have h1 := H.2 j (ready_mono hj hji)
      obtain ⟨hjun, oj, hoj, hall⟩ := mem_ready.1 hj
      have hnot : ∀ e ∈ oj.after, Region.binds md e = true → e.on ≠ i := fun e he hb heq => by
        have h1 := hall e he hb
        have h0 := (mem_ready.1 hr).1
        rw [heq] at h1
        rcases Nat.lt_or_ge i listed.size with h' | h'
        · simp [h'] at h0 h1; rw [h0] at h1; cases h1
        · simp [Array.getElem?_eq_none h'] at h1
      obtain ⟨hap, hok⟩ := hfree j oj hoj hji hjun hnot
      have hoj' : all[j]? = some oj := by simpa using hoj
      unfold qG at h1 ⊢
      simp only [hoj'] at h1 ⊢
      obtain ⟨s2, hs2, hW⟩ := h1
      obtain ⟨s', hs', hs2'⟩ := stepM_comm hap hok (hal j oj hoj') hy hs2
      have hfree' : ∀ k ok, all.toArray[k]? = some ok → k ≠ i → (listed.setIfInBounds j true).getD k true = false →
          (∀ e ∈ ok.after, Region.binds md e = true → e.on ≠ i) → oi.apart all.toArray ok = true ∧ okPair al.2 oi.op ok.op = true := fun k ok hk hki hun hno => by
        refine hfree k ok hk hki ?_ hno
        by_cases hjk : j = k
        · subst hjk; exact hjun
        · rw [getD_set_ne true hjk] at hun; exact hun
      refine ⟨s', hs', ih (listed.setIfInBounds j true) s' s2 hfree' (ready_mono hr (Ne.symm hji)) hs2' ?_⟩
      rw [Array.setIfInBounds_comm _ _ hji]
      exact hW
def wpTextG (P : Program) (n : Nat) (al : Bool × Bool) (all : List Oper) (Q : DSt → Prop) : List Oper → DSt → Prop
  | [], s => Q s
  | o :: l, s => ∃ s', stepM P n al all o s s' ∧ wpTextG P n al all Q l s'
theorem wpAnyG_lex {al : Bool × Bool} {all : List Oper} {Q : DSt → Prop} (hm : memB al all.toArray = true) : ∀ (l : List Oper) (k : Nat) (listed : Array Bool) (s : DSt), (∀ j : Nat, l[j]? = all[k + j]?) →
    (∀ j, j < k → listed.getD j true = true) →
    Region.lexFrom .any all.toArray l.length k listed = true → wpTextG P n al all Q l s → wpAnyG P n al all .any Q l.length listed s
  | [], _, _, _, _, _, hB, h => ⟨by simpa [Region.lexFrom] using hB, h⟩
  | o :: l, k, listed, s, hl, hlt, hB, h => by
    have h0 : all[k]? = some o := by simpa using (hl 0).symm
    simp only [List.length_cons, Region.lexFrom, Bool.and_eq_true] at hB
    obtain ⟨⟨hr, hf⟩, hB'⟩ := hB
    obtain ⟨s', hy, hK⟩ := h
    have h0' : all.toArray[k]? = some o := by simpa using h0
    refine wpAnyG_first h0 (fun j oj hj ha => memB_al hm (by simpa using hj) ha) l.length listed s s' (fun j oj hj hne hun hno => ⟨Region.free_spec h0' hf j oj hj hne hun hno, ?_⟩) (by simpa using hr) hy
      (wpAnyG_lex hm l (k + 1) _ _ (fun j => by have := hl (j + 1); simpa [Nat.add_assoc, Nat.add_comm 1 j] using this) (fun j hj => ?_) hB' hK)
    · have hjk : k < j := by
        rcases Nat.lt_trichotomy j k with h | h | h
        · rw [hlt j h] at hun; cases hun
        · exact absurd h hne
        · exact h
      exact memB_pair hm h0' hj hjk hno
    · by_cases hjk : k = j
      · subst hjk
        simp only [Array.getD_eq_getD_getElem?, Array.getElem?_setIfInBounds]
        simp
        split <;> simp
      · rw [getD_set_ne true hjk]; exact hlt j (by omega)
/-! ### what it says of memory -/
theorem V.undef {w w' : World} {S S' : Nat → Prop} {γ γ' : List Nat} {ρ ρ' : List Value} {b b' : Bool} {a : AV} {u : Value} (h : V w S γ ρ b a u) (hu : u = Go.undef) : V w' S' γ' ρ' b' a u := by
  induction h generalizing b' with
  | any => exact .any
  | lit => exact .lit
  | opt _ h' ih => exact .opt (fun hp => ih hp hu) h'
  | agg hl _ _ => cases hu
  | tup hl _ _ =>
    rename_i us _ _
    have : us = [] := by
      have h1 : us.toArray = #[] := by unfold Go.undef at hu; injection hu
      simpa using congrArg Array.toList h1
    subst this
    exact .tup hl fun i c u h1 h2 => by simp at h2
  | fn hl _ _ => cases hu
  | ro => cases hu
  | rop => cases hu
  | own => cases hu
  | rp => cases hu
  | bp => cases hu
theorem eget_map (f : Nat → AV) : ∀ (L : List Nat) (s : Nat), eget (L.map fun s => (s, f s)) s = if s ∈ L then f s else .any
  | [], s => by simp [eget]
  | x :: L, s => by
    simp only [List.map_cons, eget, eget_map f L s, List.mem_cons]
    by_cases h : x = s
    · subst h; simp
    · rw [if_neg h]
      have : ¬ s = x := fun e => h e.symm
      simp [this]
theorem wres_astep {B : List (List AV)} {R : List (Option Row)} {env : List (Nat × AV)} {op : Op} (h : (wres P B R (evA env) op).2) :
    astep P ⟨env, B, R⟩ op (fun v st' => v = (wres P B R (evA env) op).1.1 ∧ st' = ⟨env, (wres P B R (evA env) op).1.2.1, (wres P B R (evA env) op).1.2.2⟩) := by
  cases op <;> try exact h.elim
  case alloc t =>
    simp only [wres] at h ⊢
    unfold astep
    cases hz : zeroL P t with
    | none => rw [hz] at h; exact h.elim
    | some z =>
      rw [hz] at h
      simp only [hz]
      exact ⟨h, trivial, trivial⟩
  case store t p x =>
    simp only [wres] at h ⊢
    unfold astep
    simp only
    cases hx : acells (un (evA env x)) with
    | none => rw [hx] at h; exact h.elim
    | some cs =>
      rw [hx] at h
      simp only
      generalize hq : un (evA env p) = q at h ⊢
      cases q <;> try exact h.elim
      case rp r sz i f =>
        simp only at h ⊢
        cases hg : getRow R r sz with
        | none => rw [hg] at h; exact h.elim
        | some rw_ =>
          rw [hg] at h
          simp only at h ⊢
          obtain ⟨h1, h2, h3, h4, h5, h6, h7⟩ := h
          exact ⟨h1, h2, h3, h4, h5, h6, h7, trivial, trivial⟩
      case bp b off =>
        simp only at h ⊢
        obtain ⟨h1, h2, h3, h4, h5, h6⟩ := h
        have hb : B[b]? = some (B.getD b []) := by rw [List.getD_eq_getElem?_getD, List.getElem?_eq_getElem h5]; rfl
        rw [hb]
        exact ⟨h1, h2, h3, h4, h6, trivial, rfl⟩
theorem wpAny_of_G {w0 : World} {S0 : Stab} {al : Bool × Bool} {all : List Oper} {md : Region.Mode} {Q : DSt → Prop} {Q' : Exit → Act → World → Prop}
    (hQ : ∀ (s : DSt) a w S γ ρ, RelF w0 S0 n s.f s.B s.R a w S γ ρ → Q s → Q' .normal a w) : ∀ (fuel : Nat) (listed : Array Bool) (s : DSt) (a : Act) (w : World) (S : Nat → Prop) (γ : List Nat) (ρ : List Value),
    RelF w0 S0 n s.f s.B s.R a w S γ ρ → wpAnyG P n al all md Q fuel listed s → wpAny P md all.toArray Q' fuel listed a w
  | 0, _, s, a, w, S, γ, ρ, hr, h => ⟨h.1, hQ _ _ _ _ _ _ hr h.2⟩
  | fuel + 1, listed, s, a, w, S, γ, ρ, hr, h => ⟨fun h0 => hQ _ _ _ _ _ _ hr (h.1 h0), fun i hi => by
    have h1 := h.2 i hi
    unfold qG at h1
    unfold wpOp
    simp only [List.getElem?_toArray]
    cases ho : all[i]? with
    | none => rw [ho] at h1; simp only at h1 ⊢; exact wpAny_of_G hQ fuel _ s a w S γ ρ hr h1
    | some o =>
      rw [ho] at h1
      simp only at h1 ⊢
      obtain ⟨s', hst, hK⟩ := h1
      rcases hst with ⟨_, _, v, ⟨hd, hs⟩, rfl⟩ | ⟨hg, hd, hw, rfl⟩
      · have hd := dok_spec hd
        cases hg : o.guard with
        | none =>
          rw [hg] at hs
          have hw : Region.wanted o (yielded all.toArray a.tmps) = true := by simp [Region.wanted, hg]
          rw [if_pos hw]
          left
          obtain ⟨v', rfl, hn⟩ := apureD_sound hr.rel.heap hr.rel.sw hr.ev hs
          exact hn _ _ fun u w' S' hb hS hS' hv => wpAny_of_G hQ fuel _ ⟨_, _, _⟩ _ w' S' γ ρ ((hr.later hb hS hS').put hd hv) hK
        | some jw =>
          obtain ⟨j, want⟩ := jw
          rw [hg] at hs
          obtain ⟨g, c, x, e1, e2, e3, rfl⟩ := hs
          have hw := wanted_iff hg e1 e2 (hr.env g)
          cases c
          · rw [if_neg (by rw [hw]; simp)]
            exact wpAny_of_G hQ fuel _ ⟨_, _, _⟩ _ w S γ ρ (hr.put hd (.opt (fun h => by cases h) (fun _ => rfl))) hK
          · rw [if_pos hw]
            left
            obtain ⟨v', rfl, hn⟩ := apureD_sound hr.rel.heap hr.rel.sw hr.ev e3
            exact hn _ _ fun u w' S' hb hS hS' hv => wpAny_of_G hQ fuel _ ⟨_, _, _⟩ _ w' S' γ ρ ((hr.later hb hS hS').put hd (.opt (fun _ => hv) (fun h => by cases h))) hK
      · have hd := dok_spec hd
        have hwt : Region.wanted o (yielded all.toArray a.tmps) = true := by simp [Region.wanted, hg]
        rw [if_pos hwt]
        left
        obtain ⟨f, B, R⟩ := s
        simp only at hr hw hK
        obtain ⟨L, hL⟩ : ∃ L : List Nat, L = (o.op.operands.toList.filterMap fun | .tmp t => some t | _ => none) ++ List.range n := ⟨_, rfl⟩
        have hev : ∀ x ∈ o.op.operands.toList, evF f x = evA (L.map fun s => (s, f s)) x := fun x hx => by
          cases x <;> try rfl
          rename_i t
          simp only [evF, evA]
          rw [eget_map, if_pos]
          rw [hL]
          exact List.mem_append_left _ (List.mem_filterMap.2 ⟨.tmp t, hx, rfl⟩)
        have hrel : RelAt w0 S0 n ⟨L.map fun s => (s, f s), B, R⟩ a w S γ ρ :=
          ⟨hr.rel.below, hr.rel.s0, hr.rel.sw, hr.rel.heap, hr.rel.size, hr.rel.defs, fun s => by
            simp only [eget_map]
            split
            · exact hr.env s
            · exact .any⟩
        have hc : wres P B R (evF f) o.op = wres P B R (evA (L.map fun s => (s, f s))) o.op := wres_congr hev
        rw [hc] at hw hK
        obtain ⟨v, st', ⟨e1, e2⟩, hn⟩ := astep_sound hrel (o := o) (wres_astep hw)
        refine hn _ _ fun u w' S' γ' ρ' hr2 hv => ?_
        rw [e2] at hr2
        rw [e1] at hv
        refine wpAny_of_G hQ fuel _ ⟨_, _, _⟩ _ w' S' γ' ρ' (RelF.put ⟨⟨hr2.below, hr2.s0, hr2.sw, hr2.heap, hr2.size, hr2.defs, fun s => .any⟩, fun s => ?_⟩ hd hv) hK
        have he := hr2.env s
        simp only [eget_map] at he
        by_cases hs : s ∈ L
        · rw [if_pos hs] at he; exact he
        · have hsn : ¬ s < n := fun h => hs (by rw [hL]; exact List.mem_append_right _ (List.mem_range.2 h))
          have hu : a.tmps.getD s Go.undef = Go.undef := by
            have : a.tmps.size ≤ s := by rw [hr.rel.size]; omega
            simp [Array.getD_eq_getD_getElem?, Array.getElem?_eq_none this]
          exact (hr.env s).undef hu⟩
def aopM (P : Program) (n : Nat) (gs : Nat → Option Nat) (al : Bool × Bool) (o : Oper) (st : ASt) (K : ASt → Prop) : Prop :=
  dok n o.dst ∧ match o.op with
  | .alloc t => o.guard = none ∧ (wres P st.boxes st.rows (evA st.env) (.alloc t)).2 ∧ K ⟨(st.put o.dst (wres P st.boxes st.rows (evA st.env) (.alloc t)).1.1).env, (wres P st.boxes st.rows (evA st.env) (.alloc t)).1.2.1, (wres P st.boxes st.rows (evA st.env) (.alloc t)).1.2.2⟩
  | .store t p x => o.guard = none ∧ (wres P st.boxes st.rows (evA st.env) (.store t p x)).2 ∧ K ⟨(st.put o.dst (wres P st.boxes st.rows (evA st.env) (.store t p x)).1.1).env, (wres P st.boxes st.rows (evA st.env) (.store t p x)).1.2.1, (wres P st.boxes st.rows (evA st.env) (.store t p x)).1.2.2⟩
  | .buildSlice t len parts => o.guard = none ∧ amem P (evA st.env) (.buildSlice t len parts) fun v => K (st.put o.dst v)
  | .box t x => o.guard = none ∧ amem P (evA st.env) (.box t x) fun v => K (st.put o.dst v)
  | .makeSlice t n c => o.guard = none ∧ amem P (evA st.env) (.makeSlice t n c) fun v => K (st.put o.dst v)
  | op => ((al.1 = true → memN op = false → lowEv st.boxes.length st.rows.length (evA st.env) op.operands.toList) ∧ (al.2 = true → memN op = false → lowEv 0 0 (evA st.env) op.operands.toList)) ∧ match o.guard with
    | none => apure P st true op fun v => K (st.put o.dst v)
    | some (j, want) =>
      match gs j with
      | some g => match gcond want (eget st.env g) with
        | some c => apure P st c op fun v => K (st.put o.dst (.opt c v))
        | none => False
      | none => False
def aopsM (P : Program) (n : Nat) (gs : Nat → Option Nat) (al : Bool × Bool) : List Oper → ASt → (ASt → Prop) → Prop
  | [], st, K => K st
  | o :: os, st, K => aopM P n gs al o st fun st' => aopsM P n gs al os st' K
theorem aopsM_cons {gs : Nat → Option Nat} {al : Bool × Bool} {o : Oper} {os : List Oper} {st : ASt} {K : ASt → Prop} (h : ∀ K' : ASt → Prop, (∀ s, aopsM P n gs al os s K → K' s) → aopM P n gs al o st K') : aopsM P n gs al (o :: os) st K :=
  h _ fun _ h => h
theorem aopsM_nil {gs : Nat → Option Nat} {al : Bool × Bool} {st : ASt} {K : ASt → Prop} (h : K st) : aopsM P n gs al [] st K := h
theorem aopM_step {al : Bool × Bool} {all : List Oper} {o : Oper} {st : ASt} {K : ASt → Prop} (h : aopM P n (gslot all) al o st K) :
    ∃ st' : ASt, K st' ∧ stepM P n al all o ⟨eget st.env, st.boxes, st.rows⟩ ⟨eget st'.env, st'.boxes, st'.rows⟩ := by
  obtain ⟨hd, h⟩ := h
  have pure_case : isSt o.op = false → isAl o.op = false → ((al.1 = true → memN o.op = false → lowEv st.boxes.length st.rows.length (evA st.env) o.op.operands.toList) ∧ (al.2 = true → memN o.op = false → lowEv 0 0 (evA st.env) o.op.operands.toList)) →
      (match o.guard with
        | none => apure P st true o.op fun v => K (st.put o.dst v)
        | some (j, want) => match gslot all j with
          | some g => match gcond want (eget st.env g) with
            | some c => apure P st c o.op fun v => K (st.put o.dst (.opt c v))
            | none => False
          | none => False) → ∃ st' : ASt, K st' ∧ stepM P n al all o ⟨eget st.env, st.boxes, st.rows⟩ ⟨eget st'.env, st'.boxes, st'.rows⟩ := by
    intro h1 h2 h3 h
    have fin : ∀ v, stepV P n st.boxes st.rows all o (eget st.env) v → K (st.put o.dst v) → ∃ st' : ASt, K st' ∧ stepM P n al all o ⟨eget st.env, st.boxes, st.rows⟩ ⟨eget st'.env, st'.boxes, st'.rows⟩ := fun v hv hK =>
      ⟨_, hK, .inl ⟨⟨h1, h2⟩, ⟨fun e1 e2 => by rw [← evA_evF]; exact h3.1 e1 e2, fun e1 e2 => by rw [← evA_evF]; exact h3.2 e1 e2⟩, v, hv, by rw [eget_put, (put_boxes st o.dst v).1, (put_boxes st o.dst v).2]⟩⟩
    cases hg : o.guard with
    | none =>
      rw [hg] at h
      obtain ⟨v, e1, e2⟩ := apureD_iff (.inr (.inl h))
      exact fin v ⟨hd, by rw [hg, ← evA_evF]; exact e1⟩ e2
    | some jw =>
      obtain ⟨j, want⟩ := jw
      rw [hg] at h
      simp only at h
      cases hs : gslot all j with
      | none => rw [hs] at h; exact h.elim
      | some g =>
        rw [hs] at h
        simp only at h
        cases hc : gcond want (eget st.env g) with
        | none => rw [hc] at h; exact h.elim
        | some c =>
          rw [hc] at h
          obtain ⟨v, e1, e2⟩ := apureD_iff (.inr (.inl h))
          exact fin (.opt c v) ⟨hd, by rw [hg]; exact ⟨g, c, v, hs, hc, by rw [← evA_evF]; exact e1, rfl⟩⟩ e2
  have mem_case : isSt o.op = false → isAl o.op = false → memN o.op = true → o.guard = none → amem P (evA st.env) o.op (fun v => K (st.put o.dst v)) → ∃ st' : ASt, K st' ∧ stepM P n al all o ⟨eget st.env, st.boxes, st.rows⟩ ⟨eget st'.env, st'.boxes, st'.rows⟩ := by
    intro h1 h2 h3 hg h
    obtain ⟨v, e1, e2⟩ := apureD_iff (boxes := st.boxes) (rows := st.rows) (c := true) (.inr (.inr ⟨rfl, h⟩))
    exact ⟨_, e2, .inl ⟨⟨h1, h2⟩, ⟨fun _ e => (by rw [h3] at e; cases e), fun _ e => (by rw [h3] at e; cases e)⟩, v, ⟨hd, by rw [hg, ← evA_evF]; exact e1⟩, by rw [eget_put, (put_boxes st o.dst v).1, (put_boxes st o.dst v).2]⟩⟩
  have wr_case : o.guard = none → (wres P st.boxes st.rows (evA st.env) o.op).2 → K ⟨(st.put o.dst (wres P st.boxes st.rows (evA st.env) o.op).1.1).env, (wres P st.boxes st.rows (evA st.env) o.op).1.2.1, (wres P st.boxes st.rows (evA st.env) o.op).1.2.2⟩ →
      ∃ st' : ASt, K st' ∧ stepM P n al all o ⟨eget st.env, st.boxes, st.rows⟩ ⟨eget st'.env, st'.boxes, st'.rows⟩ := by
    intro hg h1 h2
    refine ⟨_, h2, .inr ⟨hg, hd, by simp only [← evA_evF]; exact h1, ?_⟩⟩
    simp only [← evA_evF, eget_put]
  generalize ho : o.op = op at h pure_case mem_case wr_case
  cases op <;> first
    | exact pure_case rfl rfl h.1 h.2
    | exact mem_case rfl rfl rfl h.1 h.2
    | exact wr_case h.1 h.2.1 h.2.2
theorem aopsM_text {al : Bool × Bool} {all : List Oper} {K : ASt → Prop} : ∀ (l : List Oper) (st : ASt), aopsM P n (gslot all) al l st K →
    wpTextG P n al all (fun s => ∃ st', K st' ∧ s = ⟨eget st'.env, st'.boxes, st'.rows⟩) l ⟨eget st.env, st.boxes, st.rows⟩
  | [], st, h => ⟨st, h, rfl⟩
  | o :: l, st, h => by
    obtain ⟨st', h1, h2⟩ := aopM_step h
    exact ⟨_, h2, aopsM_text l st' h1⟩
theorem AWp.regionM {id : Nat} {l : List Oper} {Q : Exit → ASt → Prop} {st : ASt} (F : List Nat) (al : Bool × Bool) (hm : P.follows .mixedOrders = true) (hB : Region.lexB .any l.toArray = true) (hM : memB al l.toArray = true)
    (h : aopsM P n (gslot l) al l st fun s => Q .normal (s.prune F)) : AWp P n (.region id l.toArray true) Q st := fun w0 S0 a w ⟨S, γ, ρ, hr⟩ => by
  simp only [Region.lexB, Bool.and_eq_true] at hB
  refine wp_region_any hm ?_
  have hb : Below w.heap.size w { w with drawn := w.drawn + 1 } := ⟨rfl, rfl, rfl, Nat.le_refl _, fun _ _ => rfl⟩
  have hr2 : RelF w0 S0 n (eget st.env) st.boxes st.rows a { w with drawn := w.drawn + 1 } S γ ρ := by
    have := hr.later hb (fun _ h => h) (fun _ h => .inl h)
    exact ⟨⟨this.below, this.s0, this.sw, this.heap, this.size, this.defs, fun s => .any⟩, this.env⟩
  have ht := wpAnyG_lex hM l 0 (Array.replicate l.toArray.size false) ⟨eget st.env, st.boxes, st.rows⟩ (by simp) (fun j hj => absurd hj (Nat.not_lt_zero j)) (by simpa using hB.2) (aopsM_text l st h)
  have hQ : ∀ (s : DSt) a' w' S' γ' ρ', RelF w0 S0 n s.f s.B s.R a' w' S' γ' ρ' → (∃ st' : ASt, Q .normal (st'.prune F) ∧ s = ⟨eget st'.env, st'.boxes, st'.rows⟩) →
      ∃ st' : ASt, Q .normal st' ∧ Rel w0 S0 n st' a' w' := fun s a' w' S' γ' ρ' hf ⟨st', hK, e⟩ => by
    subst e
    have hrel : RelAt w0 S0 n st' a' w' S' γ' ρ' := ⟨hf.rel.below, hf.rel.s0, hf.rel.sw, hf.rel.heap, hf.rel.size, hf.rel.defs, hf.env⟩
    exact ⟨_, hK, Rel.prune ⟨S', γ', ρ', hrel⟩ F⟩
  have := wpAny_of_G (P := P) (md := .any) (Q' := fun e a' w' => ∃ st', Q e st' ∧ Rel w0 S0 n st' a' w') hQ l.length _ _ a _ S γ ρ hr2 ht
  simpa using this
theorem AWp.sregM {id : Nat} {l : List Oper} {y : Code} {Q : Exit → ASt → Prop} {st : ASt} (F : Nat → List Nat) (al : Bool × Bool) (hm : P.follows .mixedOrders = true) (hB : Region.lexB .any l.toArray = true) (hM : memB al l.toArray = true)
    (h : ∀ (gs : Nat → Option Nat) (K : ASt → Prop), (∀ j, gs j = gslot l j) → (∀ s, AWp P n y Q (s.prune (F id)) → K s) → aopsM P n gs al l st K) : AWp P n (.seq (.region id l.toArray true) y) Q st :=
  AWp.seq (AWp.regionM (F id) al hm hB hM (h (gslot l) (fun s => AWp P n y Q (s.prune (F id))) (fun _ => rfl) fun s h => h))
theorem AWp.regM {id : Nat} {l : List Oper} {Q : Exit → ASt → Prop} {st : ASt} (F : Nat → List Nat) (al : Bool × Bool) (hm : P.follows .mixedOrders = true) (hB : Region.lexB .any l.toArray = true) (hM : memB al l.toArray = true)
    (h : ∀ (gs : Nat → Option Nat) (K : ASt → Prop), (∀ j, gs j = gslot l j) → (∀ s, Q .normal (s.prune (F id)) → K s) → aopsM P n gs al l st K) : AWp P n (.region id l.toArray true) Q st :=
  AWp.regionM (F id) al hm hB hM (h (gslot l) (fun s => Q .normal (s.prune (F id))) (fun _ => rfl) fun s h => h)
theorem Wk.nilBox {st : ASt} (b j ty sz : Nat) {cs : List AV} (hb : st.boxes[b]? = some cs) (hj : cs[j]? = some (.lit (.slice none 0 0))) (hsz : 0 < sz) :
    Wk st ⟨st.env, st.boxes.set b (cs.set j (.own st.rows.length sz 0 0)), st.rows ++ [some ⟨ty, sz, []⟩]⟩ := fun w0 S0 n a w ⟨S, γ, ρ, h⟩ => by
  have h1 := h.newRow (rw_ := ⟨ty, sz, []⟩) (v := .slice none 0 0) (Below.refl _ _) hsz (by simp) (fun g hg => by simp [Value.ownBlock] at hg) (World.ownsRow_nil w _ ty sz) (by simp)
  refine ⟨S, γ, ρ ++ [.slice none 0 0], h1.below, h1.s0, h1.sw, ?_, h1.size, h1.defs, h1.env⟩
  have hh := h1.heap
  refine ⟨by simpa using hh.nb, hh.nr, fun k cs' g hk hg => ?_, hh.row, hh.inj, hh.sep, hh.rinj⟩
  by_cases hkb : k = b
  · subst hkb
    rw [List.getElem?_set_self (List.getElem?_eq_some_iff.1 hb).1] at hk
    cases hk
    obtain ⟨e1, e2, us, ty', e3, e4, e5⟩ := hh.box k cs g hb hg
    refine ⟨e1, e2, us, ty', e3, by simpa using e4, fun i c hi => ?_⟩
    by_cases hij : i = j
    · subst hij
      rw [List.getElem?_set_self (List.getElem?_eq_some_iff.1 hj).1] at hi
      cases hi
      obtain ⟨u, f1, f2, f3⟩ := e5 i _ hj
      have := f3.lit_eq
      subst this
      exact ⟨_, f1, f2, .own (A0 := none) (n0 := 0) (c0 := 0) (by rw [← h.heap.nr]; simp) (fun _ => ⟨rfl, rfl⟩) (Nat.le_refl _) (by omega) (by unfold maxLen; omega) (fun h => by omega)⟩
    · rw [List.getElem?_set_ne (fun e => hij e.symm)] at hi
      exact e5 i c hi
  · rw [List.getElem?_set_ne (fun e => hkb e.symm)] at hk
    exact hh.box k cs' g hk hg
end Go.AL
namespace Go.AL
open Go.RowKit
set_option linter.unusedSimpArgs false
set_option linter.unusedVariables false
/-! ### several allocs in one drawn region: all values before them, all stores behind them -/
variable {P : Program} {n : Nat}
def swp2 : List Oper → List Oper
  | a :: b :: l => b :: a :: l
  | l => l
end Go.AL
open Go Go.AL in
attribute [go_sem] aopM wres lowEv memN isSt isAl AV.lowB lowL swp2
