/-
  The abstract layer: boxes under other numbers, drawn regions that append, contracts that say less or ask more. Over whatever program.
-/
import Derived.Test.YtjeehkdepoiegaaGreatAbsM
set_option linter.unusedSimpArgs false
set_option linter.unusedVariables false
set_option linter.constructorNameAsVariable false
namespace Go.AL
open Go.RowKit
set_option linter.unusedSimpArgs false
set_option linter.unusedVariables false
/-! ### boxes under other numbers -/
/-! ### boxes that are written no more -/
mutual
def AV.frzB (boxes : List (List AV)) : AV → AV
  | .bp b off => match boxes[b]? with
    | some cs => bif cs.all AV.cl then .rop (cs.drop off) else .any
    | none => .any
  | .agg cs => .agg (frzBL boxes cs)
  | .tup cs => .tup (frzBL boxes cs)
  | .fn g cs => .fn g (frzBL boxes cs)
  | .opt p v => .opt p (AV.frzB boxes v)
  | .any => .any
  | .lit v => .lit v
  | .ro sz xs => .ro sz xs
  | .rop cs => .rop cs
  | .own r sz off len => .own r sz off len
  | .rp r sz i j => .rp r sz i j
def frzBL (boxes : List (List AV)) : List AV → List AV
  | [] => []
  | c :: cs => AV.frzB boxes c :: frzBL boxes cs
end
theorem frzBL_eq (boxes : List (List AV)) : ∀ cs, frzBL boxes cs = cs.map (AV.frzB boxes)
  | [] => by simp [frzBL]
  | c :: cs => by simp [frzBL, frzBL_eq boxes cs]
theorem V.frzB {w : World} {B : Nat} {S : Nat → Prop} {γ : List Nat} {ρ : List Value} {boxes : List (List AV)} {rows : List (Option Row)} (hr : HR w B S γ ρ boxes rows) {b : Bool} {a : AV} {u : Value} (h : V w S γ ρ b a u) :
    V w (fun g => S g ∨ boxBlk boxes γ g) [] ρ b (a.frzB boxes) u := by
  have mono : ∀ {b : Bool} {a : AV} {u : Value} {γ' : List Nat} {ρ' : List Value}, V w S γ' ρ' b a u → V w (fun g => S g ∨ boxBlk boxes γ g) γ' ρ' b a u := fun hv => hv.mono (fun _ _ _ h => h) (fun _ h => .inl h) (fun _ _ h => h) (fun _ _ h => h)
  induction h with
  | any => simp only [AV.frzB]; exact .any
  | lit => simp only [AV.frzB]; exact .lit
  | opt _ h' ih => simp only [AV.frzB]; exact .opt ih h'
  | agg hl _ ih =>
    simp only [AV.frzB, frzBL_eq]
    refine .agg (by simpa using hl) fun i c u h1 h2 => ?_
    rw [List.getElem?_map] at h1
    obtain ⟨c0, hc, rfl⟩ := Option.map_eq_some_iff.1 h1
    exact ih i c0 u hc h2
  | tup hl _ ih =>
    simp only [AV.frzB, frzBL_eq]
    refine .tup (by simpa using hl) fun i c u h1 h2 => ?_
    rw [List.getElem?_map] at h1
    obtain ⟨c0, hc, rfl⟩ := Option.map_eq_some_iff.1 h1
    exact ih i c0 u hc h2
  | fn hl _ ih =>
    simp only [AV.frzB, frzBL_eq]
    refine .fn (by simpa using hl) fun i c u h1 h2 => ?_
    rw [List.getElem?_map] at h1
    obtain ⟨c0, hc, rfl⟩ := Option.map_eq_some_iff.1 h1
    exact ih i c0 u hc h2
  | ro U hn hc hm hz hA hv _ =>
    simp only [AV.frzB]
    exact mono (.ro U hn hc hm hz hA fun i r j x h1 h2 => (hv i r j x h1 h2).closed true)
  | rop U hs hcell hv _ =>
    simp only [AV.frzB]
    exact mono (.rop U hs hcell fun j x h1 => (hv j x h1).closed true)
  | own h h0 hlen h1 hm hA => simp only [AV.frzB]; exact .own h h0 hlen h1 hm hA
  | rp h => simp only [AV.frzB]; exact .rp h
  | @bp k off g hγ =>
    simp only [AV.frzB]
    cases hb : boxes[k]? with
    | none => exact .any
    | some cs =>
      simp only
      cases hcl : cs.all AV.cl with
      | false => exact .any
      | true =>
        simp only [cond_true]
        obtain ⟨e1, e2, us, ty, e3, e4, e5⟩ := hr.box k cs g hb hγ
        have hcell : ∀ j c, cs[j]? = some c → ∃ u, us[j]? = some u ∧ V w S [] ρ true c u := fun j c hj => by
          obtain ⟨u, u1, u2, u3⟩ := e5 j c hj
          exact ⟨u, u1, (u3.cl (List.all_eq_true.1 hcl c (List.mem_of_getElem? hj))).closed true⟩
        refine V.rop (fun j => us.getD (off + j) Go.undef) (.inr ⟨k, cs, hb, hγ⟩) (fun j x hj => ?_) fun j x hj => ?_
        · rw [List.getElem?_drop] at hj
          obtain ⟨u, u1, _⟩ := hcell _ x hj
          rw [addr_add, cell_of_row w g (off + j) us ty (0, 0) e3, u1]
          simp [Array.getD_eq_getD_getElem?, u1]
        · rw [List.getElem?_drop] at hj
          obtain ⟨u, u1, u2⟩ := hcell _ x hj
          have : us.getD (off + j) Go.undef = u := by simp [Array.getD_eq_getD_getElem?, u1]
          rw [this]
          exact mono (u2.closed true)
def frzBE (boxes : List (List AV)) : List (Nat × AV) → List (Nat × AV)
  | [] => []
  | (k, v) :: t => (k, v.frzB boxes) :: frzBE boxes t
theorem eget_frzB (boxes : List (List AV)) (s : Nat) : ∀ env, eget (frzBE boxes env) s = (eget env s).frzB boxes
  | [] => by simp [frzBE, eget, AV.frzB]
  | (k, v) :: t => by
    simp only [frzBE, eget]
    split
    · rfl
    · exact eget_frzB boxes s t
def ASt.frzB (st : ASt) : ASt := ⟨frzBE st.boxes st.env, [], st.rows⟩
theorem Rel.frzB {w0 : World} {S0 : Stab} {n : Nat} {st : ASt} {a : Act} {w : World} (h : Rel w0 S0 n st a w) : Rel w0 S0 n st.frzB a w := by
  obtain ⟨S, γ, ρ, h⟩ := h
  have hlk : ∀ k, KeepL k w S → KeepL k w (fun g => S g ∨ boxBlk st.boxes γ g) := fun k hk => hk.less fun b hb => by
    rcases hb with hb | ⟨k, cs, h1, h2⟩
    · exact .inl hb
    · obtain ⟨_, _, us, ty, e3, _⟩ := h.heap.box k cs b h1 h2
      exact .inr ⟨_, _, _, e3⟩
  refine ⟨fun g => S g ∨ boxBlk st.boxes γ g, [], ρ, h.below, ⟨fun b hb => ?_, hlk _ h.s0.2⟩, fun b hb => ?_, ?_, h.size, h.defs.map hlk, fun s => ?_⟩
  · rcases hb with hb | ⟨k, cs, h1, h2⟩
    · exact h.s0.1 b hb
    · exact .inr (h.heap.box k cs b h1 h2).1
  · rcases hb with hb | ⟨k, cs, h1, h2⟩
    · exact h.sw b hb
    · obtain ⟨_, _, us, ty, e3, _⟩ := h.heap.box k cs b h1 h2
      rcases Nat.lt_or_ge b w.heap.size with h' | h'
      · exact h'
      · rw [Array.getElem?_eq_none h'] at e3; cases e3
  · have hh := h.heap
    refine ⟨rfl, hh.nr, fun k cs g hk => by simp [ASt.frzB] at hk, fun r rw_ v h1 h2 => ?_, fun i j g h1 => by simp at h1, fun k r g rw_ v h1 => by simp at h1, hh.rinj⟩
    obtain ⟨e1, e2, e3, cells, e4, e5⟩ := hh.row r rw_ v h1 h2
    refine ⟨e1, e2, fun g hg hs => ?_, cells, e4, fun i x j c hi hj => ?_⟩
    · rcases hs with hs | ⟨k, cs, h3, h4⟩
      · exact e3 g hg hs
      · exact hh.sep k r g rw_ v h4 h1 h2 hg
    · obtain ⟨u, u1, u2, u3⟩ := e5 i x j c hi hj
      exact ⟨u, u1, u2, (u3.mono (fun _ _ _ h => h) (fun _ h => .inl h) (fun _ _ h => h) (fun _ _ h => h)).closed true⟩
  · simp only [ASt.frzB, eget_frzB]
    exact V.frzB h.heap (h.env s)
theorem AWp.frzB {P : Program} {n : Nat} {c : Code} {Q : Exit → ASt → Prop} {st : ASt} (h : AWp P n c Q st.frzB) : AWp P n c Q st := AWp.weaken (fun _ _ _ _ _ hr => hr.frzB) h
theorem AWp.loopN {P : Program} {n : Nat} {c : Code} {Q : Exit → ASt → Prop} {st : ASt} (N : Nat) (p : Nat → Prop) (inv : Nat → ASt) (h0 : Wk st (inv 0))
    (h : ∀ k, k ≤ N → (∀ j, j < k → p j) → AWp P n c (aThen (fun s => k < N ∧ p k ∧ Wk s (inv (k + 1))) Q) (inv k)) : AWp P n (.loop c) Q st := by
  refine AWp.loop (I := fun k : Nat => k ≤ N ∧ ∀ j, j < k → p j) inv (fun k => N - k) 0 ⟨Nat.zero_le _, fun j h => absurd h (Nat.not_lt_zero j)⟩ h0 ?_
  rintro k ⟨hk, hall⟩
  refine (h k hk hall).mono fun e s hq => ?_
  cases e <;> try exact hq
  obtain ⟨h1, h2, h3⟩ := hq
  refine ⟨k + 1, ⟨by omega, fun j hj => ?_⟩, h3, by omega⟩
  by_cases hjk : j = k
  · rw [hjk]; exact h2
  · exact hall j (by omega)
end Go.AL
namespace Go.AL
open Go.RowKit
set_option linter.unusedSimpArgs false
set_option linter.unusedVariables false
/-! ### drawn regions that append to rows of the call's own -/
mutual
def AV.nor : AV → Bool
  | .lit _ => true
  | .ro _ _ => true
  | .rop _ => true
  | .bp _ _ => true
  | .agg cs => norL cs
  | .tup cs => norL cs
  | .fn _ cs => norL cs
  | .any => false
  | .own _ _ _ _ => false
  | .rp _ _ _ _ => false
  | .opt _ _ => false
def norL : List AV → Bool
  | [] => true
  | c :: cs => AV.nor c && norL cs
end
def killO : Option Nat → AV → AV
  | none => fun a => a
  | some r => AV.kill r
def isBs : Op → Bool
  | .buildSlice _ _ _ => true
  | _ => false
def isAp : Op → Bool
  | .call ⟨.builtin .append, _, _⟩ => true
  | _ => false
def isW (op : Op) : Bool := isBs op || isAp op
def isBx : Op → Bool
  | .box _ _ => true
  | .assign _ => true
  | _ => false
def memQ (op : Op) : Bool := memN op && !isW op && !isBx op
def pres (P : Program) (R : List (Option Row)) (ev : Operand → AV) : Op → (AV × Option Nat × List (Option Row)) × Prop
  | .buildSlice t len parts => match apT P t with
    | some q => match partsA q.2.1 0 (parts.toList.map fun p => (p.1, un (ev p.2))) with
      | some xs => ((.own R.length q.2.1 0 len, none, R ++ [some ⟨q.1, q.2.1, xs⟩]), uoks true ev (parts.toList.map (·.2)) ∧ xs.length = len ∧ len * q.2.1 ≤ 16777216)
      | none => ((.any, none, R), False)
    | none => ((.any, none, R), False)
  | .call ⟨.builtin .append, args, ts⟩ => match args.toList, ts.toList with
    | [s, x], [t, t'] => match apT P t, elemsOf R (un (ev x)) with
      | some q, some y => match un (ev s) with
        | .own r sz off len => match getRow R r sz with
          | some rw_ => ((.own r sz 0 (len + y.2.length), some r, R.set r (some { rw_ with elems := rw_.elems.take len ++ y.2 })),
              t = t' ∧ uok true (ev s) ∧ uok true (ev x) ∧ (y.1 = q.2.1 ∨ y.2 = []) ∧ off = 0 ∧ sz = q.2.1 ∧ rw_.ty = q.1 ∧ (len + y.2.length) * q.2.2 ≤ 140737488355328)
          | none => ((.any, none, R), False)
        | _ => ((.any, none, R), False)
      | _, _ => ((.any, none, R), False)
    | _, _ => ((.any, none, R), False)
  | _ => ((.any, none, R), False)
variable {P : Program} {n : Nat}
def norEv (ev : Operand → AV) : List Operand → Prop
  | [] => True
  | x :: xs => (ev x).nor = true ∧ norEv ev xs
def reachB (all : Array Oper) (i : Nat) : Nat → Nat → Bool
  | 0, _ => false
  | f + 1, j => match all[j]? with
    | some o => o.after.any fun e => Region.binds .any e && (e.on == i || reachB all i f e.on)
    | none => false
def Closed (all : Array Oper) (listed : Array Bool) : Prop := ∀ (j : Nat) (o : Oper), all[j]? = some o → listed.getD j false = true → ∀ e ∈ o.after, Region.binds .any e = true → listed.getD e.on false = true
theorem reach_listed {all : Array Oper} {listed : Array Bool} {i : Nat} (hc : Closed all listed) : ∀ (f j : Nat) (o : Oper), all[j]? = some o → (∀ e ∈ o.after, Region.binds .any e = true → listed.getD e.on false = true) → reachB all i f j = true → listed.getD i false = true
  | 0, j, o, _, _, h => by simp [reachB] at h
  | f + 1, j, o, ho, hp, h => by
    simp only [reachB, ho] at h
    obtain ⟨e, he, hb⟩ := Array.any_eq_true'.1 h
    simp only [Bool.and_eq_true, Bool.or_eq_true, beq_iff_eq] at hb
    have hl := hp e he hb.1
    rcases hb.2 with h1 | h1
    · rw [← h1]; exact hl
    · cases hk : all[e.on]? with
      | none =>
        cases f with
        | zero => simp [reachB] at h1
        | succ f => simp [reachB, hk] at h1
      | some o2 => exact reach_listed hc f e.on o2 hk (hc e.on o2 hk hl) h1
theorem closed_set {all : Array Oper} {listed : Array Bool} {i : Nat} (hc : Closed all listed) (hi : i ∈ Region.ready .any all listed) : Closed all (listed.setIfInBounds i true) := by
  intro j o ho hl e he hb
  refine getD_set_true ?_
  by_cases hij : i = j
  · subst hij
    obtain ⟨_, o', ho', hall⟩ := mem_ready.1 hi
    rw [ho] at ho'
    cases ho'
    exact hall e he hb
  · rw [getD_set_ne false hij] at hl
    exact hc j o ho hl e he hb
theorem getD_tf {listed : Array Bool} {i : Nat} (h0 : listed.getD i true = false) (h1 : listed.getD i false = true) : False := by
  rcases Nat.lt_or_ge i listed.size with h' | h'
  · simp [h'] at h0 h1; rw [h0] at h1; cases h1
  · simp [Array.getElem?_eq_none h'] at h1
/-! ### what it says of memory -/
def killSt (r : Option Nat) (env : List (Nat × AV)) : List (Nat × AV) := match r with
  | none => env
  | some r => killE r env
def aopP (P : Program) (n : Nat) (gs : Nat → Option Nat) (al : Bool × Bool) (o : Oper) (st : ASt) (K : ASt → Prop) : Prop :=
  match isW o.op with
  | true => o.guard = none ∧ dok n o.dst ∧ (pres P st.rows (evA st.env) o.op).2 ∧
      K ⟨((⟨killSt (pres P st.rows (evA st.env) o.op).1.2.1 st.env, [], []⟩ : ASt).put o.dst (pres P st.rows (evA st.env) o.op).1.1).env, st.boxes.map (List.map (killO (pres P st.rows (evA st.env) o.op).1.2.1)), (pres P st.rows (evA st.env) o.op).1.2.2⟩
  | false => match memQ o.op with
    | true => o.guard = none ∧ dok n o.dst ∧ norEv (evA st.env) o.op.operands.toList ∧ apure P st true o.op fun v => v.nor = true ∧ K (st.put o.dst v)
    | false => aopM P n gs al o st K
theorem closed_none (all : Array Oper) (m : Nat) : Closed all (Array.replicate m false) := by
  intro j o ho hl
  exfalso
  rw [Array.getD_eq_getD_getElem?] at hl
  rcases Nat.lt_or_ge j m with h | h
  · simp [h] at hl
  · simp [h] at hl
end Go.AL
open Go Go.AL in
attribute [go_sem] aopP pres norEv isW isBs isAp memQ isBx AV.nor norL killSt killO ASt.frzB frzBE AV.frzB frzBL amem
set_option linter.unusedSimpArgs false
set_option linter.unusedVariables false
set_option linter.constructorNameAsVariable false
namespace Go.AL
open Go.RowKit
set_option linter.unusedSimpArgs false
set_option linter.unusedVariables false
/-! ### contracts: saying less, asking more -/
theorem ACall.mono {P : Program} {f : FuncId} {args args' : List AV} {r r' : AV} (h : ACall P f args r) (ha : AVleL args' args) (hr : AVle r r') : ACall P f args' r' := by
  obtain ⟨hl, hle⟩ := AVleL_spec ha
  refine ⟨h.1, fun w S us h1 h2 h3 => (h.2 w S us h1 (by omega) fun i a u e1 e2 => ?_).mono fun e w' ⟨u, f1, f2, f3⟩ => ⟨u, f1, f2, hr _ _ _ _ _ _ f3⟩⟩
  have hi : i < args'.length := by rw [hl]; exact (List.getElem?_eq_some_iff.1 e1).1
  exact hle i _ a (List.getElem?_eq_getElem hi) e1 _ _ _ _ _ _ (h3 i _ u (List.getElem?_eq_getElem hi) e2)
theorem ACallN.mono {P : Program} {f : FuncId} {args args' : List AV} {r r' : AV} {news : List (Option Row)} (h : ACallN P f args r news) (ha : AVleL args' args) (hr : AVle r r') : ACallN P f args' r' news := by
  obtain ⟨hl, hle⟩ := AVleL_spec ha
  refine ⟨h.1, fun w S us h1 h2 h3 => (h.2 w S us h1 (by omega) fun i a u e1 e2 => ?_).mono fun e w' ⟨u, S', ρ', f1, f2, f3, f4, f5, f6⟩ => ⟨u, S', ρ', f1, f2, f3, f4, f5, hr _ _ _ _ _ _ f6⟩⟩
  have hi : i < args'.length := by rw [hl]; exact (List.getElem?_eq_some_iff.1 e1).1
  exact hle i _ a (List.getElem?_eq_getElem hi) e1 _ _ _ _ _ _ (h3 i _ u (List.getElem?_eq_getElem hi) e2)
theorem ACallN.toCall {P : Program} {f : FuncId} {args : List AV} {r r' : AV} {news : List (Option Row)} (h : ACallN P f args r news) (hr : AVle (r.bor news) r') : ACall P f args r' := by
  refine ⟨h.1, fun w S us h1 h2 h3 => (h.2 w S us h1 h2 h3).mono fun e w' ⟨u, S', ρ', f1, f2, f3, f4, f5, f6⟩ => ⟨u, f1, f2, ?_⟩⟩
  have e3 := hr _ _ _ _ _ _ (f6.bor f5 true)
  refine (e3.closed true).mono (fun _ _ _ h => h) (fun g hg => ?_) (fun _ _ h => h) (fun _ _ h => h)
  rcases hg with hg | ⟨r', rw_, v', g1, g2, g3⟩
  · exact f4 g hg
  · obtain ⟨_, _, _, cells, f4, _⟩ := f5.row r' rw_ v' g1 g2
    exact .inr (f4.lt g g3)
theorem acallN_roNil {P : Program} {f : FuncId} {sz : Nat} {rest : List AV} {r : AV} {news : List (Option Row)} (h : ∀ (A : Option Addr) (c : Nat), ACallN P f (.lit (.slice A 0 c) :: rest) r news) : ACallN P f (.ro sz [] :: rest) r news := by
  refine ⟨(h none 0).1, fun w S us hS hl hv => ?_⟩
  cases us with
  | nil => simp at hl
  | cons x us =>
    have hx := hv 0 _ x rfl rfl
    have hlit : ∃ A c, x = .slice A 0 c := by
      cases hx with
      | ro U hn hc hm hz hA hc2 => exact ⟨_, _, by rw [← hn]; rfl⟩
    obtain ⟨A, c, rfl⟩ := hlit
    refine (h A c).2 w S (.slice A 0 c :: us) hS hl (fun (i : Nat) (a : AV) (u : Value) e1 e2 => ?_)
    cases i with
    | zero =>
      simp only [List.getElem?_cons_zero, Option.some.injEq] at e1 e2
      subst e1; subst e2; exact V.lit
    | succ i => exact hv (i + 1) a u (by simpa using e1) (by simpa using e2)
theorem AVleL.cons {a b : AV} {as bs : List AV} (h : AVle a b) (k : AVleL as bs) : AVleL (a :: as) (b :: bs) := ⟨h, k⟩
theorem AVleL.nil : AVleL [] [] := trivial
theorem AVleL.refl : ∀ (as : List AV), AVleL as as
  | [] => trivial
  | a :: as => ⟨AVle.refl a, AVleL.refl as⟩
end Go.AL
namespace Go.AL
open Go.RowKit
set_option linter.unusedSimpArgs false
set_option linter.unusedVariables false
variable {P : Program} {n : Nat}
/-! ### drawn regions with calls whose results are the caller's own -/
def isCN (nf : List Nat) : Op → Bool
  | .call ⟨.value (.func g), _, _⟩ => keepR nf g
  | _ => false
def notRp : AV → Prop
  | .rp _ _ _ _ => False
  | _ => True
def rowlow (ev : Operand → AV) : Op → Prop
  | .load _ a => notRp (un (ev a))
  | .call ⟨.value f, args, _⟩ => lowEv 0 0 ev (Op.call ⟨.value f, args, #[]⟩).operands.toList
  | _ => True
theorem rowlow_congr {ev ev' : Operand → AV} {op : Op} (h : ∀ x ∈ op.operands.toList, ev' x = ev x) (hl : rowlow ev op) : rowlow ev' op := by
  unfold rowlow at *
  split at hl
  · rename_i t a
    rw [h a (by simp [Op.operands])]; exact hl
  · rename_i f args ts
    exact lowEv_congr h hl
  · trivial
theorem stepV_rows {B : List (List AV)} {R R' : List (Option Row)} {all : List Oper} {o : Oper} {f : Nat → AV} {v : AV} (h : rowlow (evF f) o.op) (hs : stepV P n B R all o f v) : stepV P n B R' all o f v := by
  by_cases hN : memN o.op = true
  · exact stepV_memN hN hs
  obtain ⟨dst, op, ty, pos, after, guard⟩ := o
  simp only at h hN
  cases op <;> first | (exact absurd rfl hN) | skip
  case load t x =>
    have hx : ∀ f' : Nat → AV, notRp (un (evF f' x)) → cellsAt B R' (un (evF f' x)) = cellsAt B R (un (evF f' x)) := fun f' hr => by
      generalize un (evF f' x) = y at hr ⊢
      cases y <;> first | rfl | exact hr.elim
    have key : ∀ {c : Bool} {K : AV → Prop}, apureD P B R (evF f) c (.load t x) K → apureD P B R' (evF f) c (.load t x) K := by
      intro c K hp
      rcases hp with h1 | h1 | ⟨h1, h2⟩
      · exact .inl h1
      · refine .inr (.inl ?_)
        unfold apureE at *
        simp only at *
        simp only [ares] at *
        rw [hx f h]; exact h1
      · exact .inr (.inr ⟨h1, h2⟩)
    obtain ⟨h1, h2⟩ := hs
    refine ⟨h1, ?_⟩
    cases guard with
    | none => exact key h2
    | some jw =>
      obtain ⟨j, want⟩ := jw
      obtain ⟨g, c, y, e1, e2, e3, e4⟩ := h2
      exact ⟨g, c, y, e1, e2, key e3, e4⟩
  case call c =>
    obtain ⟨cal, args, ts⟩ := c
    cases cal with
    | value f' => exact stepV_ro (B' := B) (R' := R') h hs
    | _ => exact absurd rfl hN
  all_goals
    obtain ⟨h1, h2⟩ := hs
    refine ⟨h1, ?_⟩
    have key : ∀ {c : Bool} {op : Op} {K : AV → Prop}, (isSt op = true ∨ isAl op = true) → apureD P B R (evF f) c op K → apureD P B R' (evF f) c op K := by
      intro c op K ho hp
      rcases hp with h1 | h1 | ⟨h1, h2⟩
      · exact .inl h1
      · refine .inr (.inl ?_)
        cases op <;> simp [isSt, isAl] at ho
        all_goals
          unfold apureE at *
          simp only at *
          simp only [ares] at *
          exact h1
      · exact .inr (.inr ⟨h1, h2⟩)
    cases guard with
    | none => exact key (by first | exact .inl rfl | exact .inr rfl) h2
    | some jw =>
      obtain ⟨j, want⟩ := jw
      obtain ⟨g, c, y, e1, e2, e3, e4⟩ := h2
      exact ⟨g, c, y, e1, e2, key (by first | exact .inl rfl | exact .inr rfl) e3, e4⟩
def cN (P : Program) (B : List (List AV)) (R : List (Option Row)) (ev : Operand → AV) (op : Op) (K : AV → List (Option Row) → Prop) : Prop :=
  match op with
  | .call ⟨.value f, args, _⟩ =>
    match fnOf (un (ev f)) with
    | some g => uok true (ev f) ∧ uoks true ev args.toList ∧ ∃ r news, ACallN P g.1 ((args.toList.map fun x => (un (ev x)).lend B R) ++ g.2.map (AV.lend B R)) r news ∧
        (noOwnL (args.toList.map fun x => un (ev x)) && noOwnL g.2) = true ∧ lowEv 0 0 ev args.toList ∧ g.2 = [] ∧ K (r.shift R.length) news
    | none => False
  | _ => False
theorem cN_congr {B : List (List AV)} {R : List (Option Row)} {ev ev' : Operand → AV} {op : Op} {K : AV → List (Option Row) → Prop} (h : ∀ x ∈ op.operands.toList, ev' x = ev x) (hp : cN P B R ev op K) : cN P B R ev' op K := by
  unfold cN at hp ⊢
  split at hp
  · rename_i f args ts
    have hf : ev' f = ev f := h f (by simp [Op.operands, Call.operands])
    have ha : ∀ x ∈ args.toList, ev' x = ev x := fun x hx => h x (by simp [Op.operands, Call.operands]; exact .inr (by simpa using hx))
    have e1 : (args.toList.map fun x => (un (ev' x)).lend B R) = args.toList.map fun x => (un (ev x)).lend B R := List.map_congr_left fun x hx => by rw [ha x hx]
    have e2 : (args.toList.map fun x => un (ev' x)) = args.toList.map fun x => un (ev x) := List.map_congr_left fun x hx => by rw [ha x hx]
    rw [hf, e1, e2]
    split at hp
    · obtain ⟨h1, h2, r, news, h3, h4, h5, h6, h7⟩ := hp
      exact ⟨h1, uoks_congr (fun x hx => (ha x hx).symm) h2, r, news, h3, h4, lowEv_congr ha h5, h6, h7⟩
    · exact hp.elim
  · exact hp.elim
def okNW (nf : List Nat) (z : Op) : Bool := !isCN nf z && !isSt z && !isAl z
def okPairR (nf : List Nat) (x y : Op) : Bool := (isCN nf x && okNW nf y) || (okNW nf x && isCN nf y) || (!isCN nf x && !isCN nf y && okPair false x y)
def stepR (P : Program) (n : Nat) (nf : List Nat) (all : List Oper) (o : Oper) (s s' : DSt) : Prop :=
  (isCN nf o.op = false ∧ rowlow (evF s.f) o.op ∧ stepM P n (false, false) all o s s') ∨
  (isCN nf o.op = true ∧ o.guard = none ∧ dok n o.dst ∧ cN P s.B s.R (evF s.f) o.op fun v news => s' = ⟨updO s.f o.dst v, s.B, s.R ++ news⟩)
theorem stepM_nw {al : Bool × Bool} {all : List Oper} {o : Oper} {s s' : DSt} (h : stepM P n al all o s s') (h1 : isSt o.op = false) (h2 : isAl o.op = false) : ∃ v, stepV P n s.B s.R all o s.f v ∧ s' = ⟨updO s.f o.dst v, s.B, s.R⟩ := by
  rcases h with ⟨_, _, v, hv, e⟩ | ⟨_, _, hw, _⟩
  · exact ⟨v, hv, e⟩
  · rcases wres_kind hw with hk | hk
    · rw [h1] at hk; cases hk
    · rw [h2] at hk; cases hk
theorem stepM_f {al : Bool × Bool} {all : List Oper} {o : Oper} {s s' : DSt} (h : stepM P n al all o s s') : ∃ v, s'.f = updO s.f o.dst v := by
  rcases h with ⟨_, _, v, hv, rfl⟩ | ⟨_, _, hw, rfl⟩
  · exact ⟨v, rfl⟩
  · exact ⟨_, rfl⟩
theorem stepR_comm {nf : List Nat} {all : List Oper} {oi oj : Oper} {s s1 s2 : DSt} (hap : oi.apart all.toArray oj = true) (hok : okPairR nf oi.op oj.op = true) (hal : isAl oj.op = true → False)
    (h1 : stepR P n nf all oi s s1) (h2 : stepR P n nf all oj s1 s2) : ∃ s', stepR P n nf all oj s s' ∧ stepR P n nf all oi s' s2 := by
  obtain ⟨a1, a2, a3⟩ := Oper.apart_spec hap
  rcases h1 with ⟨ci, li, hi⟩ | ⟨ci, gi, di, hi⟩
  · rcases h2 with ⟨cj, lj, hj⟩ | ⟨cj, gj, dj, hj⟩
    · have hokp : okPair false oi.op oj.op = true := by
        simp only [okPairR, ci, cj] at hok
        simpa using hok
      obtain ⟨s', e1, e2⟩ := stepM_comm (al := (false, false)) hap hokp (fun h => (hal h).elim) hi hj
      obtain ⟨v1, f1⟩ := stepM_f hi
      obtain ⟨v2, f2⟩ := stepM_f e1
      refine ⟨s', .inl ⟨cj, ?_, e1⟩, .inl ⟨ci, ?_, e2⟩⟩
      · rw [f1] at lj
        exact rowlow_congr (fun x hx => (evF_upd a1 x hx).symm) lj
      · rw [f2]
        exact rowlow_congr (evF_upd a3) li
    · have hz : isSt oi.op = false ∧ isAl oi.op = false := by
        simp only [okPairR, ci, cj, okNW] at hok
        simpa using hok
      obtain ⟨v, hv, rfl⟩ := stepM_nw hi hz.1 hz.2
      obtain ⟨f, B, R⟩ := s
      simp only at *
      have hj2 := cN_congr (fun x hx => (evF_upd a1 x hx).symm) hj
      have hexp : ∃ w news, cN P B R (evF f) oj.op (fun v news' => v = w ∧ news' = news) ∧ s2 = ⟨updO (updO f oi.dst v) oj.dst w, B, R ++ news⟩ := by
        unfold cN at hj2 ⊢
        split at hj2
        · split at hj2
          · rename_i g hg
            obtain ⟨q1, q2, r, news, q3, q4, q5, q6, q7⟩ := hj2
            exact ⟨_, news, by simp only [hg]; exact ⟨q1, q2, r, news, q3, q4, q5, q6, rfl, rfl⟩, q7⟩
          · exact hj2.elim
        · exact hj2.elim
      obtain ⟨w, news, hw, rfl⟩ := hexp
      refine ⟨⟨updO f oj.dst w, B, R ++ news⟩, .inr ⟨cj, gj, dj, ?_⟩, .inl ⟨ci, rowlow_congr (evF_upd a3) li, .inl ⟨hz, ⟨fun h => absurd h Bool.false_ne_true, fun h => absurd h Bool.false_ne_true⟩, v, ?_, ?_⟩⟩⟩
      · unfold cN at hw ⊢
        split at hw
        · split at hw
          · rename_i g hg
            obtain ⟨q1, q2, r, news', q3, q4, q5, q6, e1, e2⟩ := hw
            simp only [hg]
            exact ⟨q1, q2, r, news', q3, q4, q5, q6, by rw [e1, e2]⟩
          · exact hw.elim
        · exact hw.elim
      · exact stepV_rows (rowlow_congr (evF_upd a3) li) (stepV_put a3 hv)
      · simp only
        rw [updO_comm f v w a2]
  · rcases h2 with ⟨cj, lj, hj⟩ | ⟨cj, gj, dj, hj⟩
    · have hz : isSt oj.op = false ∧ isAl oj.op = false := by
        simp only [okPairR, ci, cj, okNW] at hok
        simpa using hok
      obtain ⟨f, B, R⟩ := s
      simp only at *
      have hexp : ∃ w news, cN P B R (evF f) oi.op (fun v news' => v = w ∧ news' = news) ∧ s1 = ⟨updO f oi.dst w, B, R ++ news⟩ := by
        unfold cN at hi ⊢
        split at hi
        · split at hi
          · rename_i g hg
            obtain ⟨q1, q2, r, news, q3, q4, q5, q6, q7⟩ := hi
            exact ⟨_, news, by simp only [hg]; exact ⟨q1, q2, r, news, q3, q4, q5, q6, rfl, rfl⟩, q7⟩
          · exact hi.elim
        · exact hi.elim
      obtain ⟨w, news, hw, rfl⟩ := hexp
      obtain ⟨u, hu, rfl⟩ := stepM_nw hj hz.1 hz.2
      simp only at *
      have lj2 := rowlow_congr (fun x hx => (evF_upd a1 x hx).symm) lj
      refine ⟨⟨updO f oj.dst u, B, R⟩, .inl ⟨cj, lj2, .inl ⟨hz, ⟨fun h => absurd h Bool.false_ne_true, fun h => absurd h Bool.false_ne_true⟩, u, stepV_rows lj2 (stepV_back a1 hu), rfl⟩⟩, .inr ⟨ci, gi, di, ?_⟩⟩
      refine cN_congr (ev := evF f) (evF_upd a3) ?_
      unfold cN at hw ⊢
      split at hw
      · split at hw
        · rename_i g hg
          obtain ⟨q1, q2, r, news', q3, q4, q5, q6, e1, e2⟩ := hw
          simp only [hg]
          exact ⟨q1, q2, r, news', q3, q4, q5, q6, by rw [e1, e2, updO_comm f w u a2]⟩
        · exact hw.elim
      · exact hw.elim
    · simp [okPairR, ci, cj, okNW] at hok
def memBR (nf : List Nat) (ops : Array Oper) : Bool :=
  ((List.range ops.size).all fun i => match ops[i]? with
    | some oi => !isAl oi.op
    | none => true) &&
  (List.range ops.size).all fun i => (List.range ops.size).all fun j => match ops[i]?, ops[j]? with
    | some oi, some oj => Nat.ble j i || reachB ops i ops.size j || okPairR nf oi.op oj.op
    | _, _ => true
theorem memBR_al {nf : List Nat} {ops : Array Oper} (h : memBR nf ops = true) {i : Nat} {oi : Oper} (hi : ops[i]? = some oi) (ha : isAl oi.op = true) : False := by
  simp only [memBR, Bool.and_eq_true, List.all_eq_true, List.mem_range] at h
  have := h.1 i (Array.getElem?_eq_some_iff.1 hi).1
  rw [hi] at this
  simp [ha] at this
theorem memBR_pair {nf : List Nat} {ops : Array Oper} (h : memBR nf ops = true) {i j : Nat} {oi oj : Oper} (hi : ops[i]? = some oi) (hj : ops[j]? = some oj) (hij : i < j)
    (hno : reachB ops i ops.size j ≠ true) : okPairR nf oi.op oj.op = true := by
  simp only [memBR, Bool.and_eq_true, List.all_eq_true, List.mem_range] at h
  have := h.2 i (Array.getElem?_eq_some_iff.1 hi).1 j (Array.getElem?_eq_some_iff.1 hj).1
  rw [hi, hj] at this
  simp only [Bool.or_eq_true] at this
  rcases this with (h1 | h1) | h1
  · exact absurd (Nat.le_of_ble_eq_true h1) (by omega)
  · exact absurd h1 hno
  · exact h1
def qR (P : Program) (n : Nat) (nf : List Nat) (all : List Oper) (i : Nat) (K : DSt → Prop) (s : DSt) : Prop :=
  match all[i]? with
  | none => K s
  | some o => ∃ s', stepR P n nf all o s s' ∧ K s'
def wpAnyR (P : Program) (n : Nat) (nf : List Nat) (all : List Oper) (Q : DSt → Prop) : Nat → Array Bool → DSt → Prop
  | 0, listed, s => Region.ready .any all.toArray listed = [] ∧ Q s
  | fuel + 1, listed, s =>
    (Region.ready .any all.toArray listed = [] → Q s) ∧
    ∀ i ∈ Region.ready .any all.toArray listed, qR P n nf all i (wpAnyR P n nf all Q fuel (listed.setIfInBounds i true)) s
theorem wpAnyR_first {nf : List Nat} {all : List Oper} {Q : DSt → Prop} {i : Nat} {oi : Oper} (hi : all[i]? = some oi) (hal : ∀ (j : Nat) (o : Oper), all[j]? = some o → isAl o.op = true → False) :
    ∀ (fuel : Nat) (listed : Array Bool) (s s1 : DSt), Closed all.toArray listed →
      (∀ j oj, all.toArray[j]? = some oj → j ≠ i → listed.getD j true = false → reachB all.toArray i all.toArray.size j ≠ true → (∀ e ∈ oj.after, Region.binds .any e = true → e.on ≠ i) → oi.apart all.toArray oj = true ∧ okPairR nf oi.op oj.op = true) →
      i ∈ Region.ready .any all.toArray listed → stepR P n nf all oi s s1 →
      wpAnyR P n nf all Q fuel (listed.setIfInBounds i true) s1 → wpAnyR P n nf all Q (fuel + 1) listed s := by
  have take : ∀ {K : DSt → Prop} {s s1 : DSt}, stepR P n nf all oi s s1 → K s1 → qR P n nf all i K s := by
    intro K s s1 hy h
    unfold qR
    simp only [hi]
    exact ⟨s1, hy, h⟩
  intro fuel
  induction fuel with
  | zero =>
    intro listed s s1 hc _ hr hy H
    refine ⟨fun h => (by rw [h] at hr; cases hr), fun j hj => ?_⟩
    by_cases hji : j = i
    · subst hji; exact take hy H
    · have := ready_mono hj hji
      rw [H.1] at this
      cases this
  | succ fuel ih =>
    intro listed s s1 hc hfree hr hy H
    refine ⟨fun h => (by rw [h] at hr; cases hr), fun j hj => ?_⟩
    by_cases hji : j = i
    · subst hji; exact take hy H
    · have h1 := H.2 j (ready_mono hj hji)
      obtain ⟨hjun, oj, hoj, hall⟩ := mem_ready.1 hj
      have hnot : ∀ e ∈ oj.after, Region.binds .any e = true → e.on ≠ i := fun e he hb heq => by
        have h1 := hall e he hb
        rw [heq] at h1
        exact getD_tf (mem_ready.1 hr).1 h1
      have hnr : reachB all.toArray i all.toArray.size j ≠ true := fun h => getD_tf (mem_ready.1 hr).1 (reach_listed hc _ j oj hoj hall h)
      obtain ⟨hap, hok⟩ := hfree j oj hoj hji hjun hnr hnot
      have hoj' : all[j]? = some oj := by simpa using hoj
      unfold qR at h1 ⊢
      simp only [hoj'] at h1 ⊢
      obtain ⟨s2, hs2, hW⟩ := h1
      obtain ⟨s', hs', hs2'⟩ := stepR_comm hap hok (hal j oj hoj') hy hs2
      have hfree' : ∀ k ok, all.toArray[k]? = some ok → k ≠ i → (listed.setIfInBounds j true).getD k true = false → reachB all.toArray i all.toArray.size k ≠ true →
          (∀ e ∈ ok.after, Region.binds .any e = true → e.on ≠ i) → oi.apart all.toArray ok = true ∧ okPairR nf oi.op ok.op = true := fun k ok hk hki hun hrc hno => by
        refine hfree k ok hk hki ?_ hrc hno
        by_cases hjk : j = k
        · subst hjk; exact hjun
        · rw [getD_set_ne true hjk] at hun; exact hun
      refine ⟨s', hs', ih (listed.setIfInBounds j true) s' s2 (closed_set hc hj) hfree' (ready_mono hr (Ne.symm hji)) hs2' ?_⟩
      rw [Array.setIfInBounds_comm _ _ hji]
      exact hW
def wpTextR (P : Program) (n : Nat) (nf : List Nat) (all : List Oper) (Q : DSt → Prop) : List Oper → DSt → Prop
  | [], s => Q s
  | o :: l, s => ∃ s', stepR P n nf all o s s' ∧ wpTextR P n nf all Q l s'
theorem wpAnyR_lex {nf : List Nat} {all : List Oper} {Q : DSt → Prop} (hm : memBR nf all.toArray = true) : ∀ (l : List Oper) (k : Nat) (listed : Array Bool) (s : DSt), (∀ j : Nat, l[j]? = all[k + j]?) → Closed all.toArray listed →
    (∀ j, j < k → listed.getD j true = true) →
    Region.lexFrom .any all.toArray l.length k listed = true → wpTextR P n nf all Q l s → wpAnyR P n nf all Q l.length listed s
  | [], _, _, _, _, _, _, hB, h => ⟨by simpa [Region.lexFrom] using hB, h⟩
  | o :: l, k, listed, s, hl, hc, hlt, hB, h => by
    have h0 : all[k]? = some o := by simpa using (hl 0).symm
    simp only [List.length_cons, Region.lexFrom, Bool.and_eq_true] at hB
    obtain ⟨⟨hr, hf⟩, hB'⟩ := hB
    obtain ⟨s', hy, hK⟩ := h
    have h0' : all.toArray[k]? = some o := by simpa using h0
    refine wpAnyR_first h0 (fun j oj hj ha => memBR_al hm (by simpa using hj) ha) l.length listed s s' hc (fun j oj hj hne hun hrc hno => ⟨Region.free_spec h0' hf j oj hj hne hun hno, ?_⟩) (by simpa using hr) hy
      (wpAnyR_lex hm l (k + 1) _ _ (fun j => by have := hl (j + 1); simpa [Nat.add_assoc, Nat.add_comm 1 j] using this) (closed_set hc (by simpa using hr)) (fun j hj => ?_) hB' hK)
    · have hjk : k < j := by
        rcases Nat.lt_trichotomy j k with h | h | h
        · rw [hlt j h] at hun; cases hun
        · exact absurd h hne
        · exact h
      exact memBR_pair hm h0' hj hjk hrc
    · by_cases hjk : k = j
      · subst hjk
        simp only [Array.getD_eq_getD_getElem?, Array.getElem?_setIfInBounds]
        simp
        split <;> simp
      · rw [getD_set_ne true hjk]; exact hlt j (by omega)
theorem wpAny_of_R {w0 : World} {S0 : Stab} {nf : List Nat} {all : List Oper} {Q : DSt → Prop} {Q' : Exit → Act → World → Prop}
    (hQ : ∀ (s : DSt) a w S γ ρ, RelF w0 S0 n s.f s.B s.R a w S γ ρ → Q s → Q' .normal a w) : ∀ (fuel : Nat) (listed : Array Bool) (s : DSt) (a : Act) (w : World) (S : Nat → Prop) (γ : List Nat) (ρ : List Value),
    RelF w0 S0 n s.f s.B s.R a w S γ ρ → wpAnyR P n nf all Q fuel listed s → wpAny P .any all.toArray Q' fuel listed a w
  | 0, _, s, a, w, S, γ, ρ, hr, h => ⟨h.1, hQ _ _ _ _ _ _ hr h.2⟩
  | fuel + 1, listed, s, a, w, S, γ, ρ, hr, h => ⟨fun h0 => hQ _ _ _ _ _ _ hr (h.1 h0), fun i hi => by
    have h1 := h.2 i hi
    unfold qR at h1
    unfold wpOp
    simp only [List.getElem?_toArray]
    cases ho : all[i]? with
    | none => rw [ho] at h1; simp only at h1 ⊢; exact wpAny_of_R hQ fuel _ s a w S γ ρ hr h1
    | some o =>
      rw [ho] at h1
      simp only at h1 ⊢
      obtain ⟨s', hst, hK⟩ := h1
      obtain ⟨f, B, R⟩ := s
      simp only at hr
      obtain ⟨L, hL⟩ : ∃ L : List Nat, L = (o.op.operands.toList.filterMap fun | .tmp t => some t | _ => none) ++ List.range n := ⟨_, rfl⟩
      have hev : ∀ x ∈ o.op.operands.toList, evA (L.map fun s => (s, f s)) x = evF f x := fun x hx => by
        cases x <;> try rfl
        rename_i t
        simp only [evF, evA]
        rw [eget_map, if_pos]
        rw [hL]
        exact List.mem_append_left _ (List.mem_filterMap.2 ⟨.tmp t, hx, rfl⟩)
      have hrel : RelAt w0 S0 n ⟨L.map fun s => (s, f s), B, R⟩ a w S γ ρ :=
        ⟨hr.rel.below, hr.rel.s0, hr.rel.sw, hr.rel.heap, hr.rel.size, hr.rel.defs, fun s => by
          simp only [eget_map]
          split
          · exact hr.env s
          · exact .any⟩
      rcases hst with ⟨_, _, hm⟩ | ⟨_, hg, hd, hc⟩
      · rcases hm with ⟨_, _, v, ⟨hd, hs⟩, rfl⟩ | ⟨hg, hd, hw, rfl⟩
        · have hd := dok_spec hd
          cases hg : o.guard with
          | none =>
            rw [hg] at hs
            have hw : Region.wanted o (yielded all.toArray a.tmps) = true := by simp [Region.wanted, hg]
            rw [if_pos hw]
            left
            obtain ⟨v', rfl, hn⟩ := apureD_sound hr.rel.heap hr.rel.sw hr.ev hs
            exact hn _ _ fun u w' S' hb hS hS' hv => wpAny_of_R hQ fuel _ ⟨_, _, _⟩ _ w' S' γ ρ ((hr.later hb hS hS').put hd hv) hK
          | some jw =>
            obtain ⟨j, want⟩ := jw
            rw [hg] at hs
            obtain ⟨g, c, x, e1, e2, e3, rfl⟩ := hs
            have hw := wanted_iff hg e1 e2 (hr.env g)
            cases c
            · rw [if_neg (by rw [hw]; simp)]
              exact wpAny_of_R hQ fuel _ ⟨_, _, _⟩ _ w S γ ρ (hr.put hd (.opt (fun h => by cases h) (fun _ => rfl))) hK
            · rw [if_pos hw]
              left
              obtain ⟨v', rfl, hn⟩ := apureD_sound hr.rel.heap hr.rel.sw hr.ev e3
              exact hn _ _ fun u w' S' hb hS hS' hv => wpAny_of_R hQ fuel _ ⟨_, _, _⟩ _ w' S' γ ρ ((hr.later hb hS hS').put hd (.opt (fun _ => hv) (fun h => by cases h))) hK
        · have hd := dok_spec hd
          have hwt : Region.wanted o (yielded all.toArray a.tmps) = true := by simp [Region.wanted, hg]
          rw [if_pos hwt]
          left
          simp only at hw hK
          have hc : wres P B R (evF f) o.op = wres P B R (evA (L.map fun s => (s, f s))) o.op := wres_congr fun x hx => (hev x hx).symm
          rw [hc] at hw hK
          obtain ⟨v, st', ⟨e1, e2⟩, hn⟩ := astep_sound hrel (o := o) (wres_astep hw)
          refine hn _ _ fun u w' S' γ' ρ' hr2 hv => ?_
          rw [e2] at hr2
          rw [e1] at hv
          refine wpAny_of_R hQ fuel _ ⟨_, _, _⟩ _ w' S' γ' ρ' (RelF.put ⟨⟨hr2.below, hr2.s0, hr2.sw, hr2.heap, hr2.size, hr2.defs, fun s => .any⟩, fun s => ?_⟩ hd hv) hK
          have he := hr2.env s
          simp only [eget_map] at he
          by_cases hs : s ∈ L
          · rw [if_pos hs] at he; exact he
          · have hsn : ¬ s < n := fun h => hs (by rw [hL]; exact List.mem_append_right _ (List.mem_range.2 h))
            have hu : a.tmps.getD s Go.undef = Go.undef := by
              have : a.tmps.size ≤ s := by rw [hr.rel.size]; omega
              simp [Array.getD_eq_getD_getElem?, Array.getElem?_eq_none this]
            exact (hr.env s).undef hu
      · -- a call whose results are the caller's own
        have hwt : Region.wanted o (yielded all.toArray a.tmps) = true := by simp [Region.wanted, hg]
        rw [if_pos hwt]
        left
        have hc2 := cN_congr hev hc
        clear hc
        obtain ⟨dst, op, ty, pos, after, guard⟩ := o
        simp only at hc2 hg hd hK
        subst hg
        unfold cN at hc2
        split at hc2
        · rename_i fo args tys _
          split at hc2
          · rename_i g hfn
            obtain ⟨huf, hu, r, news, ⟨hca, hcall⟩, hno, _, _, rfl⟩ := hc2
            obtain ⟨cu, hrun, hcl, hcv⟩ := call_run hrel huf hfn hca dst args tys ty pos after
            obtain ⟨hno1, hno2⟩ := Bool.and_eq_true_iff.1 hno
            unfold Oper.wp
            rw [hrun, Oper.upon_enter]
            have := hcall w S (args.toList.map a.eval ++ cu) hrel.sw (by simp [hcl]) (args_get hrel.ev hu hcv (AV.lend B R) (fun a => a.noOwn = true) (fun y hy => noOwnL_mem hno1 _ (List.mem_map.2 ⟨y, hy, rfl⟩)) (fun y hy => noOwnL_mem hno2 y hy)
              fun a u hn hv => (hv.noOwn_lend B R hn true).closed true)
            refine this.mono fun e w' ⟨u, S', ρ', he, hb, hS, hS', hR, hv⟩ => ?_
            subst he
            have hrl := Rel.calledN (st := ⟨[], B, R⟩) hr.rel hb hS hS' hR
            refine wpAny_of_R hQ fuel _ ⟨_, _, _⟩ _ w' S' γ (ρ ++ ρ') (RelF.put ⟨⟨hrl.below, hrl.s0, hrl.sw, hrl.heap, hrl.size, hrl.defs, fun s => .any⟩, fun s => ?_⟩ (dok_spec hd) ?_) hK
            · have h2 := hr.later hb hS hS'
              exact (h2.env s).mono (fun p _ x hx => hx) (fun _ h => h) (fun _ _ h => h) (fun k g hg => by
                rw [List.getElem?_append_left (List.getElem?_eq_some_iff.1 hg).1]; exact hg)
            · rw [← hrel.heap.nr]
              exact hv.shift
          · exact hc2.elim
        · exact hc2.elim⟩
def aopR (P : Program) (n : Nat) (gs : Nat → Option Nat) (nf : List Nat) (o : Oper) (st : ASt) (K : ASt → Prop) : Prop :=
  match isCN nf o.op with
  | true => o.guard = none ∧ dok n o.dst ∧ cN P st.boxes st.rows (evA st.env) o.op fun v news => K ⟨(st.put o.dst v).env, st.boxes, st.rows ++ news⟩
  | false => rowlow (evA st.env) o.op ∧ aopM P n gs (false, false) o st K
def aopsR (P : Program) (n : Nat) (gs : Nat → Option Nat) (nf : List Nat) : List Oper → ASt → (ASt → Prop) → Prop
  | [], st, K => K st
  | o :: os, st, K => aopR P n gs nf o st fun st' => aopsR P n gs nf os st' K
theorem aopsR_cons {gs : Nat → Option Nat} {nf : List Nat} {o : Oper} {os : List Oper} {st : ASt} {K : ASt → Prop} (h : ∀ K' : ASt → Prop, (∀ s, aopsR P n gs nf os s K → K' s) → aopR P n gs nf o st K') : aopsR P n gs nf (o :: os) st K :=
  h _ fun _ h => h
theorem aopsR_nil {gs : Nat → Option Nat} {nf : List Nat} {st : ASt} {K : ASt → Prop} (h : K st) : aopsR P n gs nf [] st K := h
theorem aopR_step {nf : List Nat} {all : List Oper} {o : Oper} {st : ASt} {K : ASt → Prop} (h : aopR P n (gslot all) nf o st K) :
    ∃ st' : ASt, K st' ∧ stepR P n nf all o ⟨eget st.env, st.boxes, st.rows⟩ ⟨eget st'.env, st'.boxes, st'.rows⟩ := by
  unfold aopR at h
  split at h
  · rename_i hc
    obtain ⟨h1, h2, h3⟩ := h
    unfold cN at h3
    split at h3
    · rename_i f args ts hop
      split at h3
      · rename_i g hg
        obtain ⟨q1, q2, r, news, q3, q4, q5, q6, q7⟩ := h3
        refine ⟨_, q7, .inr ⟨hc, h1, h2, ?_⟩⟩
        rw [hop]
        unfold cN
        simp only [← evA_evF, hg]
        refine ⟨q1, q2, r, news, q3, q4, q5, q6, ?_⟩
        rw [eget_put]
      · exact h3.elim
    · exact h3.elim
  · rename_i hc
    obtain ⟨st', h1, h2⟩ := aopM_step h.2
    exact ⟨st', h1, .inl ⟨hc, by simp only [← evA_evF]; exact h.1, h2⟩⟩
theorem aopsR_text {nf : List Nat} {all : List Oper} {K : ASt → Prop} : ∀ (l : List Oper) (st : ASt), aopsR P n (gslot all) nf l st K →
    wpTextR P n nf all (fun s => ∃ st', K st' ∧ s = ⟨eget st'.env, st'.boxes, st'.rows⟩) l ⟨eget st.env, st.boxes, st.rows⟩
  | [], st, h => ⟨st, h, rfl⟩
  | o :: l, st, h => by
    obtain ⟨st', h1, h2⟩ := aopR_step h
    exact ⟨_, h2, aopsR_text l st' h1⟩
theorem AWp.regionR {id : Nat} {l : List Oper} {Q : Exit → ASt → Prop} {st : ASt} (F : List Nat) (nf : List Nat) (hm : P.follows .mixedOrders = true) (hB : Region.lexB .any l.toArray = true) (hM : memBR nf l.toArray = true)
    (h : aopsR P n (gslot l) nf l st fun s => Q .normal (s.prune F)) : AWp P n (.region id l.toArray true) Q st := fun w0 S0 a w ⟨S, γ, ρ, hr⟩ => by
  simp only [Region.lexB, Bool.and_eq_true] at hB
  refine wp_region_any hm ?_
  have hb : Below w.heap.size w { w with drawn := w.drawn + 1 } := ⟨rfl, rfl, rfl, Nat.le_refl _, fun _ _ => rfl⟩
  have hr2 : RelF w0 S0 n (eget st.env) st.boxes st.rows a { w with drawn := w.drawn + 1 } S γ ρ := by
    have := hr.later hb (fun _ h => h) (fun _ h => .inl h)
    exact ⟨⟨this.below, this.s0, this.sw, this.heap, this.size, this.defs, fun s => .any⟩, this.env⟩
  have ht := wpAnyR_lex hM l 0 (Array.replicate l.toArray.size false) ⟨eget st.env, st.boxes, st.rows⟩ (by simp) (closed_none _ _) (fun j hj => absurd hj (Nat.not_lt_zero j)) (by simpa using hB.2) (aopsR_text l st h)
  have hQ : ∀ (s : DSt) a' w' S' γ' ρ', RelF w0 S0 n s.f s.B s.R a' w' S' γ' ρ' → (∃ st' : ASt, Q .normal (st'.prune F) ∧ s = ⟨eget st'.env, st'.boxes, st'.rows⟩) →
      ∃ st' : ASt, Q .normal st' ∧ Rel w0 S0 n st' a' w' := fun s a' w' S' γ' ρ' hf ⟨st', hK, e⟩ => by
    subst e
    have hrel : RelAt w0 S0 n st' a' w' S' γ' ρ' := ⟨hf.rel.below, hf.rel.s0, hf.rel.sw, hf.rel.heap, hf.rel.size, hf.rel.defs, hf.env⟩
    exact ⟨_, hK, Rel.prune ⟨S', γ', ρ', hrel⟩ F⟩
  have := wpAny_of_R (P := P) (Q' := fun e a' w' => ∃ st', Q e st' ∧ Rel w0 S0 n st' a' w') hQ l.length _ _ a _ S γ ρ hr2 ht
  simpa using this
theorem AWp.regR {id : Nat} {l : List Oper} {Q : Exit → ASt → Prop} {st : ASt} (F : Nat → List Nat) (nf : List Nat) (hm : P.follows .mixedOrders = true) (hB : Region.lexB .any l.toArray = true) (hM : memBR nf l.toArray = true)
    (h : ∀ (gs : Nat → Option Nat) (K : ASt → Prop), (∀ j, gs j = gslot l j) → (∀ s, Q .normal (s.prune (F id)) → K s) → aopsR P n gs nf l st K) : AWp P n (.region id l.toArray true) Q st :=
  AWp.regionR (F id) nf hm hB hM (h (gslot l) (fun s => Q .normal (s.prune (F id))) (fun _ => rfl) fun s h => h)
theorem AWp.sregR {id : Nat} {l : List Oper} {y : Code} {Q : Exit → ASt → Prop} {st : ASt} (F : Nat → List Nat) (nf : List Nat) (hm : P.follows .mixedOrders = true) (hB : Region.lexB .any l.toArray = true) (hM : memBR nf l.toArray = true)
    (h : ∀ (gs : Nat → Option Nat) (K : ASt → Prop), (∀ j, gs j = gslot l j) → (∀ s, AWp P n y Q (s.prune (F id)) → K s) → aopsR P n gs nf l st K) : AWp P n (.seq (.region id l.toArray true) y) Q st :=
  AWp.seq (AWp.regionR (F id) nf hm hB hM (h (gslot l) (fun s => AWp P n y Q (s.prune (F id))) (fun _ => rfl) fun s h => h))
end Go.AL
open Go Go.AL in
attribute [go_sem] aopR cN isCN rowlow notRp
