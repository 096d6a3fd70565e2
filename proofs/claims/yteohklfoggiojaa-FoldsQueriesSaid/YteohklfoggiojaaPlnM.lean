/-
  Plain models: lists of nodes, trees, values; no program in sight.
-/
import Derived.Test.YteohklfoggiojaaAbsS
import Derived.Test.YteohklfoggiojaaAbsD
namespace Go.Proofs.Yteohklfoggiojaa
open Go.AL
set_option linter.unusedSimpArgs false
set_option linter.unusedVariables false
structure Ev where
  mark : Bool
  time : Int
  key : Int
  rt : Int
  value : Int
  deriving DecidableEq, Inhabited
def Ev.cells (e : Ev) : List AV := [.lit (.bool e.mark), .lit (.int .i64 e.time), .lit (.int .i64 e.key), .lit (.int .i64 e.rt), .lit (.int .i64 e.value)]
def evsV (l : List Ev) : AV := .ro 5 (l.map Ev.cells)
def isTimeB (t : Int) : Bool := decide (-1099511627776 ≤ t) && decide (t ≤ 1099511627776)
def markB (t : Int) : Bool := isTimeB t || t == 9223372036854775807
structure Msg where
  kind : Int
  key : Int
  rt : Int
  value : Int
  time : Int
  r1 : Int
  r2 : Int
  r3 : Int
  r4 : Int
  r5 : Int
  deriving DecidableEq, Inhabited
def Msg.cells (m : Msg) : List AV := [.lit (.int .u8 m.kind), .lit (.int .i64 m.key), .lit (.int .i64 m.rt), .lit (.int .i64 m.value), .lit (.int .i64 m.time),
  .lit (.int .i64 m.r1), .lit (.int .i64 m.r2), .lit (.int .i64 m.r3), .lit (.int .i64 m.r4), .lit (.int .i64 m.r5)]
end Go.Proofs.Yteohklfoggiojaa
namespace Go.Proofs.Yteohklfoggiojaa
open Go.AL
set_option linter.unusedSimpArgs false
set_option linter.unusedVariables false
instance : Inhabited Msg := ⟨⟨0, 0, 0, 0, 0, 0, 0, 0, 0, 0⟩⟩
structure Snd where
  out : Int
  m : Msg
  deriving DecidableEq, Inhabited
def Snd.cells (s : Snd) : List AV := .lit (.int .i64 s.out) :: s.m.cells
structure RowT where
  key : Int
  s : Int
  e : Int
  v0 : Int
  v1 : Int
  deriving DecidableEq, Inhabited
def RowT.cells (r : RowT) : List AV := [.lit (.int .i64 r.key), .lit (.int .i64 r.s), .lit (.int .i64 r.e), .lit (.int .i64 r.v0), .lit (.int .i64 r.v1)]
structure Rcd where
  key : Int
  t : Int
  v : Int
  deriving DecidableEq, Inhabited
def Rcd.cells (r : Rcd) : List AV := [.lit (.int .i64 r.key), .lit (.int .i64 r.t), .lit (.int .i64 r.v)]
structure Ent where
  key : Int
  s : Int
  e : Int
  c0 : Int
  s0 : Int
  m0 : Int
  x0 : Int
  c1 : Int
  s1 : Int
  m1 : Int
  x1 : Int
  deriving DecidableEq, Inhabited
def Ent.cells (r : Ent) : List AV := [.lit (.int .i64 r.key), .lit (.int .i64 r.s), .lit (.int .i64 r.e), .lit (.int .i64 r.c0), .lit (.int .i64 r.s0), .lit (.int .i64 r.m0), .lit (.int .i64 r.x0), .lit (.int .i64 r.c1), .lit (.int .i64 r.s1), .lit (.int .i64 r.m1), .lit (.int .i64 r.x1)]
def intC (x : Int) : List AV := [.lit (.int .i64 x)]
structure Tsk where
  kind : Int
  n : Int
  turn : Int
  pend : List Snd
  marks : List Int
  store : List Ent
  evs : List Ev
  rows : List RowT
  late : List Rcd
  deriving DecidableEq, Inhabited
structure Tsk.ok (t : Tsk) : Prop where
  p : t.pend.length ≤ maxLen
  m : t.marks.length ≤ maxLen
  s : t.store.length ≤ maxLen
  e : t.evs.length ≤ maxLen
  r : t.rows.length ≤ maxLen
  l : t.late.length ≤ maxLen
def sndsV (l : List Snd) : AV := .ro 11 (l.map Snd.cells)
def mksV (l : List Int) : AV := .ro 1 (l.map intC)
def entsV (l : List Ent) : AV := .ro 11 (l.map Ent.cells)
def rowsV (l : List RowT) : AV := .ro 5 (l.map RowT.cells)
def rcdsV (l : List Rcd) : AV := .ro 3 (l.map Rcd.cells)
def Tsk.cells (t : Tsk) : List AV := [.lit (.int .u8 t.kind), .lit (.int .i64 t.n), .lit (.int .i64 t.turn), sndsV t.pend, mksV t.marks, entsV t.store, evsV t.evs, rowsV t.rows, rcdsV t.late]
/-! ### what is valid -/
def lowB (t : Int) : Bool := t == -9223372036854775808 || markB t
end Go.Proofs.Yteohklfoggiojaa
namespace Go.Proofs.Yteohklfoggiojaa
open Go.AL
set_option linter.unusedSimpArgs false
set_option linter.unusedVariables false
structure Node where
  kind : Int
  n : Int
  a : Int
  b : Int
  pos : Int
  deriving DecidableEq, Inhabited
def Node.cells (x : Node) : List AV := [.lit (.int .u8 x.kind), .lit (.int .i64 x.n), .lit (.int .i64 x.a), .lit (.int .i64 x.b), .lit (.int .i64 x.pos)]
def nodesV (l : List Node) : AV := .ro 5 (l.map Node.cells)
def natsV (l : List Nat) : AV := .ro 1 (l.map fun x : Nat => [.lit (.int .i64 (x : Int))])
def countI (k : Int) : Int := if k ≤ 4 then 0 else if k ≤ 6 then 1 else 2
def rightB (x : Node) (a b : Int) : Bool :=
  decide (1 ≤ x.kind) && decide (x.kind ≤ 19) && decide (0 ≤ x.n) && (x.n == 0 || x.kind == 1) && decide (0 ≤ x.pos) && decide (x.pos ≤ 400) && x.a == a && x.b == b
def stepN (sd : List Nat × List Nat) (x : Node) : Option (List Nat × List Nat) :=
  let i := sd.1.length
  if x.kind ≤ 4 then (if rightB x 0 0 = true then some (sd.1 ++ [1], sd.2 ++ [1]) else none)
  else if i = 0 then none
  else
    let s1 := sd.1.getD (i - 1) 0
    let d1 := sd.2.getD (i - 1) 0
    if x.kind ≤ 6 then (if rightB x ((i - 1 : Nat) : Int) 0 = true then some (sd.1 ++ [1 + s1], sd.2 ++ [1 + d1]) else none)
    else if i - 1 < s1 then none
    else
      let j := i - 1 - s1
      if rightB x (j : Int) ((i - 1 : Nat) : Int) = true then some (sd.1 ++ [1 + s1 + sd.1.getD j 0], sd.2 ++ [max (1 + d1) (1 + sd.2.getD j 0)]) else none
def sizesF (l : List Node) : Option (List Nat × List Nat) := l.foldlM stepN ([], [])
theorem stepN_eq {s d : List Nat} {k : Nat} {x : Node} (hs : s.length = k) : stepN (s, d) x =
    if countI x.kind ≤ 0 then (if rightB x 0 0 = true then some (s ++ [1], d ++ [1]) else none)
    else if (k : Int) - 1 < 0 then none
    else if countI x.kind = 2 then
      if (k : Int) - 1 - (s.getD ((k : Int) - 1).toNat default : Nat) < 0 then none
      else if rightB x ((k : Int) - 1 - (s.getD ((k : Int) - 1).toNat default : Nat)) ((k : Int) - 1) = true then
        some (s ++ [1 + s.getD ((k : Int) - 1).toNat default + s.getD ((k : Int) - 1 - (s.getD ((k : Int) - 1).toNat default : Nat)).toNat default],
          d ++ [if (1 + d.getD ((k : Int) - 1 - (s.getD ((k : Int) - 1).toNat default : Nat)).toNat default) > (1 + d.getD ((k : Int) - 1).toNat default) then 1 + d.getD ((k : Int) - 1 - (s.getD ((k : Int) - 1).toNat default : Nat)).toNat default else 1 + d.getD ((k : Int) - 1).toNat default])
      else none
    else if rightB x ((k : Int) - 1) 0 = true then some (s ++ [1 + s.getD ((k : Int) - 1).toNat default], d ++ [1 + d.getD ((k : Int) - 1).toNat default]) else none := by
  subst hs
  have e1 : ((s.length : Int) - 1).toNat = s.length - 1 := by omega
  have hd : ∀ (l : List Nat) (i : Nat), l.getD i default = l.getD i 0 := fun _ _ => rfl
  simp only [e1, hd]
  by_cases h4 : x.kind ≤ 4
  · simp only [stepN, countI, if_pos h4]
    rw [if_pos (Int.le_refl 0)]
  · by_cases hk : s.length = 0
    · simp only [stepN, if_neg h4, if_pos hk]
      rw [if_neg (by unfold countI; rw [if_neg h4]; split <;> omega), if_pos (by omega)]
    · have e2 : ((s.length - 1 : Nat) : Int) = (s.length : Int) - 1 := by omega
      by_cases h6 : x.kind ≤ 6
      · simp only [stepN, countI, if_neg h4, if_neg hk, if_pos h6, e2]
        rw [if_neg (show ¬ ((1 : Int) ≤ 0) by omega), if_neg (show ¬ ((s.length : Int) - 1 < 0) by omega), if_neg (show ¬ ((1 : Int) = 2) by omega)]
      · simp only [stepN, countI, if_neg h4, if_neg hk, if_neg h6, e2]
        rw [if_neg (show ¬ ((2 : Int) ≤ 0) by omega), if_neg (show ¬ ((s.length : Int) - 1 < 0) by omega), if_pos trivial]
        by_cases hlt : s.length - 1 < s.getD (s.length - 1) 0
        · rw [if_pos hlt, if_pos (show ((s.length : Int) - 1 - (s.getD (s.length - 1) 0 : Nat) < 0) by omega)]
        · rw [if_neg hlt, if_neg (show ¬ ((s.length : Int) - 1 - (s.getD (s.length - 1) 0 : Nat) < 0) by omega)]
          have e3 : ((s.length - 1 - s.getD (s.length - 1) 0 : Nat) : Int) = (s.length : Int) - 1 - (s.getD (s.length - 1) 0 : Nat) := by omega
          have e4 : ((s.length : Int) - 1 - (s.getD (s.length - 1) 0 : Nat)).toNat = s.length - 1 - s.getD (s.length - 1) 0 := by omega
          rw [e3, e4]
          have e5 : ∀ a b : Nat, (if b > a then b else a) = max a b := fun a b => by rw [Nat.max_def]; split <;> split <;> omega
          rw [e5]
/-! ### trees -/
structure Hd where
  kind : Int
  n : Int
  pos : Int
  deriving DecidableEq, Inhabited
inductive Ex where
  | leaf (x : Hd)
  | un (x : Hd) (e : Ex)
  | bin (x : Hd) (e f : Ex)
  deriving DecidableEq, Inhabited
def Hd.node (x : Hd) (a b : Int) : Node := ⟨x.kind, x.n, a, b, x.pos⟩
def Node.hd (x : Node) : Hd := ⟨x.kind, x.n, x.pos⟩
def Ex.sz : Ex → Nat
  | .leaf _ => 1
  | .un _ e => e.sz + 1
  | .bin _ e f => e.sz + f.sz + 1
def Ex.dp : Ex → Nat
  | .leaf _ => 1
  | .un _ e => e.dp + 1
  | .bin _ e f => max e.dp f.dp + 1
def Ex.hd : Ex → Hd
  | .leaf x => x
  | .un x _ => x
  | .bin x _ _ => x
def Ex.fl (o : Nat) : Ex → List Node
  | .leaf x => [x.node 0 0]
  | .un x e => e.fl o ++ [x.node ((o + e.sz - 1 : Nat) : Int) 0]
  | .bin x e f => e.fl o ++ f.fl (o + e.sz) ++ [x.node ((o + e.sz - 1 : Nat) : Int) ((o + e.sz + f.sz - 1 : Nat) : Int)]
def Ex.szs : Ex → List Nat
  | .leaf _ => [1]
  | .un _ e => e.szs ++ [e.sz + 1]
  | .bin _ e f => e.szs ++ f.szs ++ [e.sz + f.sz + 1]
def Ex.dps : Ex → List Nat
  | .leaf _ => [1]
  | .un _ e => e.dps ++ [e.dp + 1]
  | .bin _ e f => e.dps ++ f.dps ++ [max e.dp f.dp + 1]
structure Hd.ok (x : Hd) : Prop where
  k1 : 1 ≤ x.kind
  k2 : x.kind ≤ 19
  n0 : 0 ≤ x.n
  n1 : x.n = 0 ∨ x.kind = 1
  p0 : 0 ≤ x.pos
  p1 : x.pos ≤ 400
def Ex.wf : Ex → Prop
  | .leaf x => x.ok ∧ x.kind ≤ 4
  | .un x e => x.ok ∧ 4 < x.kind ∧ x.kind ≤ 6 ∧ e.wf
  | .bin x e f => x.ok ∧ 6 < x.kind ∧ e.wf ∧ f.wf
def flF (o : Nat) : List Ex → List Node
  | [] => []
  | e :: F => e.fl o ++ flF (o + e.sz) F
def szF (F : List Ex) : Nat := (F.map Ex.sz).sum
theorem Ex.sz_pos : ∀ e : Ex, 0 < e.sz
  | .leaf _ => by simp [Ex.sz]
  | .un _ e => by simp [Ex.sz]
  | .bin _ e f => by simp [Ex.sz]
theorem Ex.dp_pos : ∀ e : Ex, 0 < e.dp
  | .leaf _ => by simp [Ex.dp]
  | .un _ e => by simp [Ex.dp]
  | .bin _ e f => by simp [Ex.dp]
theorem Ex.dp_le : ∀ e : Ex, e.dp ≤ e.sz
  | .leaf _ => by simp [Ex.dp, Ex.sz]
  | .un _ e => by simp only [Ex.dp, Ex.sz]; have := e.dp_le; omega
  | .bin _ e f => by simp only [Ex.dp, Ex.sz]; have := e.dp_le; have := f.dp_le; omega
theorem Ex.fl_length : ∀ (e : Ex) (o : Nat), (e.fl o).length = e.sz
  | .leaf _, o => by simp [Ex.fl, Ex.sz]
  | .un _ e, o => by simp [Ex.fl, Ex.sz, e.fl_length]
  | .bin _ e f, o => by simp [Ex.fl, Ex.sz, e.fl_length, f.fl_length]; omega
theorem Ex.szs_length : ∀ (e : Ex), e.szs.length = e.sz
  | .leaf _ => by simp [Ex.szs, Ex.sz]
  | .un _ e => by simp [Ex.szs, Ex.sz, e.szs_length]
  | .bin _ e f => by simp [Ex.szs, Ex.sz, e.szs_length, f.szs_length]; omega
theorem Ex.dps_length : ∀ (e : Ex), e.dps.length = e.sz
  | .leaf _ => by simp [Ex.dps, Ex.sz]
  | .un _ e => by simp [Ex.dps, Ex.sz, e.dps_length]
  | .bin _ e f => by simp [Ex.dps, Ex.sz, e.dps_length, f.dps_length]; omega
theorem Ex.szs_last (e : Ex) : ∃ l, e.szs = l ++ [e.sz] := by
  cases e with
  | leaf x => exact ⟨[], rfl⟩
  | un x e => exact ⟨_, rfl⟩
  | bin x e f => exact ⟨_, rfl⟩
theorem Ex.dps_last (e : Ex) : ∃ l, e.dps = l ++ [e.dp] := by
  cases e with
  | leaf x => exact ⟨[], rfl⟩
  | un x e => exact ⟨_, rfl⟩
  | bin x e f => exact ⟨_, rfl⟩
theorem getD_app_last {α : Type} (l m : List α) (x d : α) (i : Nat) (h : i + 1 = (l ++ [x]).length) : ((l ++ [x]) ++ m).getD i d = x := by
  rw [List.getD_eq_getElem?_getD, List.getElem?_append_left (by omega), List.getElem?_append_right (by simp at h; omega)]
  simp at h; subst h; simp
theorem szs_at (s m : List Nat) (e : Ex) (i : Nat) (h : i + 1 = s.length + e.sz) : ((s ++ e.szs) ++ m).getD i 0 = e.sz := by
  obtain ⟨l, hl⟩ := e.szs_last
  have h2 := e.szs_length
  rw [hl] at h2
  rw [hl, ← List.append_assoc]
  exact getD_app_last _ _ _ _ _ (by simp at h2 ⊢; omega)
theorem dps_at (s m : List Nat) (e : Ex) (i : Nat) (h : i + 1 = s.length + e.sz) : ((s ++ e.dps) ++ m).getD i 0 = e.dp := by
  obtain ⟨l, hl⟩ := e.dps_last
  have h2 := e.dps_length
  rw [hl] at h2
  rw [hl, ← List.append_assoc]
  exact getD_app_last _ _ _ _ _ (by simp at h2 ⊢; omega)
theorem rightB_iff (x : Node) (a b : Int) : rightB x a b = true ↔ x.hd.ok ∧ x.a = a ∧ x.b = b := by
  unfold rightB Node.hd
  simp only [Bool.and_eq_true, Bool.or_eq_true, decide_eq_true_eq, beq_iff_eq]
  constructor
  · rintro ⟨⟨⟨⟨⟨⟨⟨h1, h2⟩, h3⟩, h4⟩, h5⟩, h6⟩, h7⟩, h8⟩; exact ⟨⟨h1, h2, h3, h4, h5, h6⟩, h7, h8⟩
  · rintro ⟨⟨h1, h2, h3, h4, h5, h6⟩, h7, h8⟩; exact ⟨⟨⟨⟨⟨⟨⟨h1, h2⟩, h3⟩, h4⟩, h5⟩, h6⟩, h7⟩, h8⟩
theorem fold_fl : ∀ (e : Ex) (s d : List Nat), e.wf → d.length = s.length → (e.fl s.length).foldlM stepN (s, d) = some (s ++ e.szs, d ++ e.dps)
  | .leaf x, s, d, h, hl => by
    have hr : rightB (x.node 0 0) 0 0 = true := (rightB_iff _ _ _).2 ⟨h.1, rfl, rfl⟩
    have hk : (x.node 0 0).kind ≤ 4 := h.2
    simp [Ex.fl, Ex.szs, Ex.dps, stepN, hk, hr]
  | .un x e, s, d, h, hl => by
    have hp := e.sz_pos
    have hr : rightB (x.node ((s.length + e.sz - 1 : Nat) : Int) 0) ((s.length + e.sz - 1 : Nat) : Int) 0 = true := (rightB_iff _ _ _).2 ⟨h.1, rfl, rfl⟩
    have hk : ¬ x.kind ≤ 4 := by have := h.2.1; omega
    have hs := szs_at s [] e (s.length + e.sz - 1) (by omega)
    have hd := dps_at d [] e (s.length + e.sz - 1) (by omega)
    rw [List.append_nil] at hs hd
    simp only [Ex.fl, List.foldlM_append, fold_fl e s d h.2.2.2 hl, Option.bind_eq_bind, Option.bind_some, List.foldlM_cons, List.foldlM_nil, stepN, List.length_append, e.szs_length]
    rw [if_neg (show ¬ (x.node _ 0).kind ≤ 4 from hk), if_neg (by omega), if_pos (show (x.node _ 0).kind ≤ 6 from h.2.2.1), hr, hs, hd]
    simp [Ex.szs, Ex.dps, Nat.add_comm]
  | .bin x e f, s, d, h, hl => by
    have hp := e.sz_pos
    have hq := f.sz_pos
    have hr : rightB (x.node ((s.length + e.sz - 1 : Nat) : Int) ((s.length + e.sz + f.sz - 1 : Nat) : Int)) ((s.length + e.sz - 1 : Nat) : Int) ((s.length + e.sz + f.sz - 1 : Nat) : Int) = true := (rightB_iff _ _ _).2 ⟨h.1, rfl, rfl⟩
    have hk : ¬ x.kind ≤ 6 := by have := h.2.1; omega
    have hs := szs_at (s ++ e.szs) [] f (s.length + e.sz + f.sz - 1) (by simp [e.szs_length]; omega)
    have hd := dps_at (d ++ e.dps) [] f (s.length + e.sz + f.sz - 1) (by simp [e.dps_length]; omega)
    have hs2 := szs_at s f.szs e (s.length + e.sz - 1) (by omega)
    have hd2 := dps_at d f.dps e (s.length + e.sz - 1) (by omega)
    rw [List.append_nil] at hs hd
    have h2 := fold_fl f (s ++ e.szs) (d ++ e.dps) h.2.2.2 (by simp [hl, e.szs_length, e.dps_length])
    rw [List.length_append, e.szs_length] at h2
    simp only [Ex.fl, List.foldlM_append, fold_fl e s d h.2.2.1 hl, h2, Option.bind_eq_bind, Option.bind_some, List.foldlM_cons, List.foldlM_nil, stepN, List.length_append, e.szs_length, f.szs_length]
    rw [if_neg (show ¬ (x.node _ _).kind ≤ 4 by show ¬ x.kind ≤ 4; omega), if_neg (by omega), if_neg (show ¬ (x.node _ _).kind ≤ 6 from hk), hs, hd, if_neg (by omega)]
    rw [show s.length + e.sz + f.sz - 1 - f.sz = s.length + e.sz - 1 by omega, hs2, hd2, hr]
    simp [Ex.szs, Ex.dps]
    omega
theorem fold_flF : ∀ (F : List Ex) (s d : List Nat), (∀ e ∈ F, e.wf) → d.length = s.length → (flF s.length F).foldlM stepN (s, d) = some (s ++ F.flatMap Ex.szs, d ++ F.flatMap Ex.dps)
  | [], s, d, h, hl => by simp [flF]
  | e :: F, s, d, h, hl => by
    have h2 := fold_flF F (s ++ e.szs) (d ++ e.dps) (fun f hf => h f (by simp [hf])) (by simp [hl, e.szs_length, e.dps_length])
    rw [List.length_append, e.szs_length] at h2
    simp [flF, List.foldlM_append, fold_fl e s d (h e (by simp)) hl, h2]
theorem flF_length : ∀ (F : List Ex) (o : Nat), (flF o F).length = szF F
  | [], o => by simp [flF, szF]
  | e :: F, o => by
    have := flF_length F (o + e.sz)
    simp only [flF, List.length_append, this, e.fl_length, szF, List.map_cons, List.sum_cons]
theorem szs_lenF : ∀ (F : List Ex), (F.flatMap Ex.szs).length = szF F
  | [] => rfl
  | e :: F => by
    have := szs_lenF F
    simp only [List.flatMap_cons, List.length_append, this, e.szs_length, szF, List.map_cons, List.sum_cons]
theorem dps_lenF : ∀ (F : List Ex), (F.flatMap Ex.dps).length = szF F
  | [] => rfl
  | e :: F => by
    have := dps_lenF F
    simp only [List.flatMap_cons, List.length_append, this, e.dps_length, szF, List.map_cons, List.sum_cons]
theorem szF_app (F G : List Ex) : szF (F ++ G) = szF F + szF G := by simp [szF]
theorem flF_app : ∀ (F G : List Ex) (o : Nat), flF o (F ++ G) = flF o F ++ flF (o + szF F) G
  | [], G, o => by simp [flF, szF]
  | e :: F, G, o => by
    have := flF_app F G (o + e.sz)
    simp only [List.cons_append, flF, this, List.append_assoc, szF, List.map_cons, List.sum_cons, Nat.add_assoc]
theorem snoc_cases {α : Type} (F : List α) : F = [] ∨ ∃ G e, F = G ++ [e] := by
  rcases List.eq_nil_or_concat F with h | ⟨G, e, h⟩
  · exact .inl h
  · exact .inr ⟨G, e, by simpa using h⟩
theorem forest_step {F : List Ex} {x : Node} {sd : List Nat × List Nat} (hw : ∀ e ∈ F, e.wf) (h : stepN (F.flatMap Ex.szs, F.flatMap Ex.dps) x = some sd) :
    ∃ G : List Ex, flF 0 F ++ [x] = flF 0 G ∧ (∀ e ∈ G, e.wf) ∧ sd = (G.flatMap Ex.szs, G.flatMap Ex.dps) := by
  unfold stepN at h
  simp only [szs_lenF] at h
  split at h
  · rename_i hk
    split at h
    · rename_i hr
      obtain ⟨h1, h2, h3⟩ := (rightB_iff _ _ _).1 hr
      cases h
      refine ⟨F ++ [.leaf x.hd], ?_, fun e he => ?_, by simp [Ex.szs, Ex.dps]⟩
      · simp only [flF_app, flF, Ex.fl, List.append_nil]
        congr 2
        cases x; simp [Hd.node, Node.hd] at h2 h3 ⊢; exact ⟨h2, h3⟩
      · rcases List.mem_append.1 he with he | he
        · exact hw e he
        · simp at he; subst he; exact ⟨h1, hk⟩
    · cases h
  · rename_i hk
    split at h
    · cases h
    · rename_i hi
      rcases snoc_cases F with rfl | ⟨F1, f, rfl⟩
      · simp [szF] at hi
      have hq := f.sz_pos
      have hsz : szF (F1 ++ [f]) = szF F1 + f.sz := by simp [szF]
      have e1 : ((F1 ++ [f]).flatMap Ex.szs).getD (szF (F1 ++ [f]) - 1) 0 = f.sz := by
        have := szs_at (F1.flatMap Ex.szs) [] f (szF (F1 ++ [f]) - 1) (by rw [szs_lenF]; omega)
        simpa using this
      have e2 : ((F1 ++ [f]).flatMap Ex.dps).getD (szF (F1 ++ [f]) - 1) 0 = f.dp := by
        have := dps_at (F1.flatMap Ex.dps) [] f (szF (F1 ++ [f]) - 1) (by rw [dps_lenF]; omega)
        simpa using this
      rw [e1, e2] at h
      split at h
      · rename_i hk6
        split at h
        · rename_i hr
          obtain ⟨h1, h2, h3⟩ := (rightB_iff _ _ _).1 hr
          cases h
          refine ⟨F1 ++ [.un x.hd f], ?_, fun e he => ?_, by simp [Ex.szs, Ex.dps, Nat.add_comm]⟩
          · simp only [flF_app, flF, Ex.fl, List.append_nil, List.append_assoc, Nat.zero_add]
            congr 3
            rw [hsz] at h2
            cases x; simp only [Hd.node, Node.hd] at h2 h3 ⊢; rw [h2, h3]
          · rcases List.mem_append.1 he with he | he
            · exact hw e (by simp [he])
            · simp at he; subst he; exact ⟨h1, by show 4 < x.kind; omega, hk6, hw f (by simp)⟩
        · cases h
      · rename_i hk6
        split at h
        · cases h
        · rename_i hlt
          rcases snoc_cases F1 with rfl | ⟨F2, g, rfl⟩
          · simp [szF] at hlt; omega
          have hp := g.sz_pos
          have hsz1 : szF (F2 ++ [g]) = szF F2 + g.sz := by simp [szF]
          have hj : szF (F2 ++ [g] ++ [f]) - 1 - f.sz = szF F2 + g.sz - 1 := by omega
          have e3 : ((F2 ++ [g] ++ [f]).flatMap Ex.szs).getD (szF F2 + g.sz - 1) 0 = g.sz := by
            have := szs_at (F2.flatMap Ex.szs) f.szs g (szF F2 + g.sz - 1) (by rw [szs_lenF]; omega)
            simpa using this
          have e4 : ((F2 ++ [g] ++ [f]).flatMap Ex.dps).getD (szF F2 + g.sz - 1) 0 = g.dp := by
            have := dps_at (F2.flatMap Ex.dps) f.dps g (szF F2 + g.sz - 1) (by rw [dps_lenF]; omega)
            simpa using this
          rw [hj, e3, e4] at h
          split at h
          · rename_i hr
            obtain ⟨h1, h2, h3⟩ := (rightB_iff _ _ _).1 hr
            cases h
            refine ⟨F2 ++ [.bin x.hd g f], ?_, fun e he => ?_, ?_⟩
            · simp only [flF_app, flF, Ex.fl, List.append_nil, List.append_assoc, Nat.zero_add, szF_app]
              simp only [szF, List.map_cons, List.map_nil, List.sum_cons, List.sum_nil, Nat.add_zero]
              congr 4
              rw [hsz, hsz1] at h3
              cases x; simp only [Hd.node, Node.hd, szF] at h2 h3 ⊢; rw [h2, h3]
            · rcases List.mem_append.1 he with he | he
              · exact hw e (by simp [he])
              · simp at he; subst he; exact ⟨h1, by show 6 < x.kind; omega, hw g (by simp), hw f (by simp)⟩
            · simp [Ex.szs, Ex.dps]; omega
          · cases h
theorem forest_of : ∀ (l : List Node) (F : List Ex) (sd : List Nat × List Nat), (∀ e ∈ F, e.wf) → l.foldlM stepN (F.flatMap Ex.szs, F.flatMap Ex.dps) = some sd →
    ∃ G : List Ex, flF 0 F ++ l = flF 0 G ∧ (∀ e ∈ G, e.wf) ∧ sd = (G.flatMap Ex.szs, G.flatMap Ex.dps)
  | [], F, sd, hw, h => by simp at h; exact ⟨F, by simp, hw, h.symm⟩
  | x :: l, F, sd, hw, h => by
    rw [List.foldlM_cons] at h
    cases hx : stepN (F.flatMap Ex.szs, F.flatMap Ex.dps) x with
    | none => simp [hx] at h
    | some sd1 =>
      obtain ⟨G, e1, e2, rfl⟩ := forest_step hw hx
      rw [hx] at h
      obtain ⟨H, f1, f2, f3⟩ := forest_of l G sd e2 h
      exact ⟨H, by rw [← f1, ← e1]; simp, f2, f3⟩
theorem sizesF_forest {l : List Node} {sd : List Nat × List Nat} (h : sizesF l = some sd) : ∃ G : List Ex, l = flF 0 G ∧ (∀ e ∈ G, e.wf) ∧ sd = (G.flatMap Ex.szs, G.flatMap Ex.dps) := by
  have := forest_of l [] sd (by simp) h
  simpa [flF] using this
theorem sizesF_flF {F : List Ex} (h : ∀ e ∈ F, e.wf) : sizesF (flF 0 F) = some (F.flatMap Ex.szs, F.flatMap Ex.dps) := by
  have := fold_flF F [] [] h rfl
  simpa [sizesF] using this
/-! ### what Sizes keeps -/
theorem sizesF_next {l : List Node} {k : Nat} {sd : List Nat × List Nat} (h : sizesF (l.take k) = some sd) (hk : k < l.length) : sizesF (l.take (k + 1)) = stepN sd (l.getD k default) := by
  unfold sizesF at h ⊢
  rw [List.take_add_one, List.foldlM_append, h, List.getElem?_eq_getElem hk]
  simp [List.getD_eq_getElem?_getD, hk]
theorem sizesF_stop {l : List Node} {k : Nat} {sd : List Nat × List Nat} (h : sizesF (l.take k) = some sd) (hk : k < l.length) (h2 : stepN sd (l.getD k default) = none) : sizesF l = none := by
  have h3 := sizesF_next h hk
  rw [h2] at h3
  unfold sizesF at h3 ⊢
  rw [← List.take_append_drop (k + 1) l, List.foldlM_append, h3]; rfl
theorem Ex.szs_bd : ∀ (e : Ex) (j : Nat), j < e.sz → 1 ≤ e.szs.getD j 0 ∧ e.szs.getD j 0 ≤ j + 1
  | .leaf _, j, h => by simp [Ex.sz] at h; subst h; simp [Ex.szs]
  | .un _ e, j, h => by
    simp only [Ex.sz] at h
    simp only [Ex.szs, List.getD_eq_getElem?_getD]
    by_cases hj : j < e.sz
    · rw [List.getElem?_append_left (by rw [e.szs_length]; exact hj), ← List.getD_eq_getElem?_getD]; exact e.szs_bd j hj
    · have : j = e.sz := by omega
      subst this
      rw [List.getElem?_append_right (by rw [e.szs_length]; exact Nat.le_refl _), e.szs_length]; simp
  | .bin _ e f, j, h => by
    simp only [Ex.sz] at h
    simp only [Ex.szs, List.getD_eq_getElem?_getD]
    by_cases hj : j < e.sz
    · rw [List.append_assoc, List.getElem?_append_left (by rw [e.szs_length]; exact hj), ← List.getD_eq_getElem?_getD]; exact e.szs_bd j hj
    · by_cases hj2 : j < e.sz + f.sz
      · rw [List.getElem?_append_left (by simp [e.szs_length, f.szs_length]; exact hj2), List.getElem?_append_right (by rw [e.szs_length]; omega), e.szs_length, ← List.getD_eq_getElem?_getD]
        have := f.szs_bd (j - e.sz) (by omega)
        omega
      · have : j = e.sz + f.sz := by omega
        subst this
        rw [List.getElem?_append_right (by simp [e.szs_length, f.szs_length])]; simp [e.szs_length, f.szs_length]
theorem Ex.dps_bd : ∀ (e : Ex) (j : Nat), j < e.sz → 1 ≤ e.dps.getD j 0 ∧ e.dps.getD j 0 ≤ j + 1
  | .leaf _, j, h => by simp [Ex.sz] at h; subst h; simp [Ex.dps]
  | .un _ e, j, h => by
    simp only [Ex.sz] at h
    simp only [Ex.dps, List.getD_eq_getElem?_getD]
    by_cases hj : j < e.sz
    · rw [List.getElem?_append_left (by rw [e.dps_length]; exact hj), ← List.getD_eq_getElem?_getD]; exact e.dps_bd j hj
    · have : j = e.sz := by omega
      subst this
      have := e.dp_le
      rw [List.getElem?_append_right (by rw [e.dps_length]; exact Nat.le_refl _), e.dps_length]; simp; omega
  | .bin _ e f, j, h => by
    simp only [Ex.sz] at h
    simp only [Ex.dps, List.getD_eq_getElem?_getD]
    by_cases hj : j < e.sz
    · rw [List.append_assoc, List.getElem?_append_left (by rw [e.dps_length]; exact hj), ← List.getD_eq_getElem?_getD]; exact e.dps_bd j hj
    · by_cases hj2 : j < e.sz + f.sz
      · rw [List.getElem?_append_left (by simp [e.dps_length, f.dps_length]; exact hj2), List.getElem?_append_right (by rw [e.dps_length]; omega), e.dps_length, ← List.getD_eq_getElem?_getD]
        have := f.dps_bd (j - e.sz) (by omega)
        omega
      · have : j = e.sz + f.sz := by omega
        subst this
        have := e.dp_le
        have := f.dp_le
        rw [List.getElem?_append_right (by simp [e.dps_length, f.dps_length])]; simp [e.dps_length, f.dps_length]; omega
theorem flat_bd (g : Ex → List Nat) (hg : ∀ e : Ex, (g e).length = e.sz) (hb : ∀ (e : Ex) (j : Nat), j < e.sz → 1 ≤ (g e).getD j 0 ∧ (g e).getD j 0 ≤ j + 1) :
    ∀ (F : List Ex) (j : Nat), j < szF F → 1 ≤ (F.flatMap g).getD j 0 ∧ (F.flatMap g).getD j 0 ≤ j + 1
  | [], j, h => by simp [szF] at h
  | e :: F, j, h => by
    simp only [szF, List.map_cons, List.sum_cons] at h
    simp only [List.flatMap_cons, List.getD_eq_getElem?_getD]
    by_cases hj : j < e.sz
    · rw [List.getElem?_append_left (by rw [hg]; exact hj), ← List.getD_eq_getElem?_getD]; exact hb e j hj
    · rw [List.getElem?_append_right (by rw [hg]; omega), hg, ← List.getD_eq_getElem?_getD]
      have := flat_bd g hg hb F (j - e.sz) (by unfold szF; omega)
      omega
theorem sizesF_bounds {l : List Node} {s d : List Nat} (h : sizesF l = some (s, d)) : s.length = l.length ∧ d.length = l.length ∧ (∀ j, j < l.length → 1 ≤ s.getD j default ∧ s.getD j default ≤ j + 1) ∧ (∀ j, j < l.length → 1 ≤ d.getD j default ∧ d.getD j default ≤ j + 1) := by
  obtain ⟨G, rfl, hw, e⟩ := sizesF_forest h
  cases e
  rw [flF_length, szs_lenF, dps_lenF]
  exact ⟨rfl, rfl, flat_bd Ex.szs Ex.szs_length Ex.szs_bd G, flat_bd Ex.dps Ex.dps_length Ex.dps_bd G⟩
end Go.Proofs.Yteohklfoggiojaa
namespace Go.Proofs.Yteohklfoggiojaa
open Go.AL
set_option linter.unusedSimpArgs false
set_option linter.unusedVariables false
structure Top where
  pos : Nat
  size : Nat
  depth : Nat
  deriving DecidableEq, Inhabited
def Top.cells (t : Top) : List AV := [.lit (.int .i64 (t.pos : Int)), .lit (.int .i64 (t.size : Int)), .lit (.int .i64 (t.depth : Int))]
def topsV (l : List Top) : AV := .ro 3 (l.map Top.cells)
def partsN (k : Int) : Int := if 1 ≤ k ∧ k ≤ 4 then 0 else if k = 5 ∨ k = 6 then 1 else if 7 ≤ k ∧ k ≤ 19 then 2 else 0
def partsE (k : Int) : Int := if 1 ≤ k ∧ k ≤ 19 then 0 else 2
def ownN (x : Node) (a b : Int) : Node := ⟨x.kind, if x.kind = 1 then max x.n 0 else 0, a, b, min (max x.pos 0) 400⟩
def topStep (sa : List Top × List Top) (x : Node) : Option (List Top × List Top) :=
  let m := sa.1.length
  if x.kind < 1 ∨ 19 < x.kind then none
  else if x.kind ≤ 4 then
    (if ownN x 0 0 = x then some (sa.1 ++ [⟨sa.2.length, 1, 1⟩], sa.2 ++ [⟨sa.2.length, 1, 1⟩]) else none)
  else if x.kind ≤ 6 then
    (if m < 1 then none
    else
      let p := sa.1.getD (m - 1) default
      if ownN x p.pos 0 = x then some (sa.1.take (m - 1) ++ [⟨sa.2.length, 1 + p.size, max 1 (p.depth + 1)⟩], sa.2 ++ [⟨sa.2.length, 1 + p.size, max 1 (p.depth + 1)⟩]) else none)
  else
    (if m < 2 then none
    else
      let p := sa.1.getD (m - 2) default
      let q := sa.1.getD (m - 1) default
      if ownN x p.pos q.pos = x then some (sa.1.take (m - 2) ++ [⟨sa.2.length, 1 + p.size + q.size, max (max 1 (p.depth + 1)) (q.depth + 1)⟩], sa.2 ++ [⟨sa.2.length, 1 + p.size + q.size, max (max 1 (p.depth + 1)) (q.depth + 1)⟩]) else none)
def topsF (l : List Node) : Option (List Top × List Top) := l.foldlM topStep ([], [])
theorem topsF_next {l : List Node} {k : Nat} {sd : List Top × List Top} (h : topsF (l.take k) = some sd) (hk : k < l.length) : topsF (l.take (k + 1)) = topStep sd (l.getD k default) := by
  unfold topsF at *
  rw [List.take_succ_eq_append_getElem hk, List.foldlM_append, h]
  simp [List.getD_eq_getElem?_getD, List.getElem?_eq_getElem hk]
theorem topsF_stop {l : List Node} {k : Nat} {sd : List Top × List Top} (h : topsF (l.take k) = some sd) (hk : k < l.length) (h2 : topStep sd (l.getD k default) = none) : topsF l = none := by
  have h3 := topsF_next h hk
  rw [h2] at h3
  unfold topsF at *
  rw [← List.take_append_drop (k + 1) l, List.foldlM_append, h3]
  rfl
structure TopsB (k : Nat) (s a : List Top) : Prop where
  al : a.length = k
  sl : s.length ≤ k
  ss : (s.map Top.size).sum ≤ k
  sb : ∀ t ∈ s, t.pos < k ∧ t.depth ≤ k
theorem sum_split (s : List Top) (i : Nat) (hi : i < s.length) : (s.map Top.size).sum = ((s.take i).map Top.size).sum + (s.getD i default).size + ((s.drop (i + 1)).map Top.size).sum := by
  have e : s.getD i default = s[i] := by rw [List.getD_eq_getElem?_getD, List.getElem?_eq_getElem hi]; rfl
  have h : s = s.take i ++ s[i] :: s.drop (i + 1) := by rw [← List.drop_eq_getElem_cons hi, List.take_append_drop]
  have h2 := congrArg (fun l => (l.map Top.size).sum) h
  simp only [List.map_append, List.map_cons, List.sum_append, List.sum_cons] at h2
  rw [e]; omega
theorem TopsB.get {k : Nat} {s a : List Top} (h : TopsB k s a) (i : Nat) (hi : i < s.length) : (s.getD i default).pos < k ∧ (s.getD i default).depth ≤ k ∧ (s.getD i default).size ≤ k := by
  have e : s.getD i default = s[i] := by rw [List.getD_eq_getElem?_getD, List.getElem?_eq_getElem hi]; rfl
  obtain ⟨h1, h2⟩ := h.sb s[i] (List.getElem_mem hi)
  have h3 := sum_split s i hi
  have h4 := h.ss
  rw [e] at h3 ⊢
  exact ⟨h1, h2, by omega⟩
theorem TopsB.step {k : Nat} {s a s' a' : List Top} {x : Node} (h : TopsB k s a) (hs : topStep (s, a) x = some (s', a')) : TopsB (k + 1) s' a' := by
  have mk : ∀ (m : Nat) (t : Top), t.pos = a.length → t.depth ≤ k + 1 → m ≤ s.length → ((s.take m).map Top.size).sum + t.size ≤ k + 1 → TopsB (k + 1) (s.take m ++ [t]) (a ++ [t]) := by
    intro m t h1 h2 h3 h4
    refine ⟨by simp [h.al], by simp; have := h.sl; omega, by simpa using h4, fun u hu => ?_⟩
    rcases List.mem_append.1 hu with hu | hu
    · have := h.sb u (List.mem_of_mem_take hu); omega
    · simp at hu; subst hu; rw [h1, h.al]; omega
  have hss := h.ss
  unfold topStep at hs
  simp only at hs
  split at hs
  · cases hs
  split at hs
  · split at hs
    · cases hs
      have := mk s.length ⟨a.length, 1, 1⟩ rfl (by simp) (Nat.le_refl _) (by rw [List.take_length]; simp; omega)
      rwa [List.take_length] at this
    · cases hs
  split at hs
  · split at hs
    · cases hs
    split at hs
    · cases hs
      obtain ⟨_, h2, _⟩ := h.get (s.length - 1) (by omega)
      have := sum_split s (s.length - 1) (by omega)
      exact mk _ _ rfl (by simp only; omega) (by omega) (by simp only; omega)
    · cases hs
  · split at hs
    · cases hs
    split at hs
    · cases hs
      obtain ⟨_, h2, _⟩ := h.get (s.length - 1) (by omega)
      obtain ⟨_, h3, _⟩ := h.get (s.length - 2) (by omega)
      have h4 := sum_split s (s.length - 2) (by omega)
      have h5 : s.length - 2 + 1 = s.length - 1 := by omega
      rw [h5, List.drop_eq_getElem_cons (by omega : s.length - 1 < s.length)] at h4
      have e : s.getD (s.length - 1) default = s[s.length - 1]'(by omega) := by rw [List.getD_eq_getElem?_getD, List.getElem?_eq_getElem (by omega)]; rfl
      rw [List.map_cons, List.sum_cons, ← e] at h4
      exact mk _ _ rfl (by simp only; omega) (by omega) (by simp only; omega)
    · cases hs
theorem own_eq (kd nn xa xb xp a b : Int) : ownN ⟨kd, nn, xa, xb, xp⟩ a b = ⟨kd, nn, xa, xb, xp⟩ ↔
    (if kd = 1 then (if 0 > nn then 0 else nn) = nn else 0 = nn) ∧ a = xa ∧ b = xb ∧ (if 400 < (if 0 > xp then 0 else xp) then 400 else if 0 > xp then 0 else xp) = xp := by
  have e : min (max xp 0) 400 = if 400 < (if 0 > xp then 0 else xp) then 400 else if 0 > xp then 0 else xp := by
    rw [Int.max_def, Int.min_def]; repeat' split
    all_goals omega
  have e2 : max nn 0 = if 0 > nn then 0 else nn := by
    rw [Int.max_def]; repeat' split
    all_goals omega
  unfold ownN
  simp only [Node.mk.injEq, true_and, e, e2]
  by_cases hk : kd = 1
  · simp only [if_pos hk]
  · simp only [if_neg hk]
theorem max_cast (x y : Nat) : ((max x y : Nat) : Int) = if (y : Int) > (x : Int) then (y : Int) else (x : Int) := by
  rw [Nat.max_def]; split <;> split <;> omega
end Go.Proofs.Yteohklfoggiojaa
namespace Go.Proofs.Yteohklfoggiojaa
open Go.AL
set_option linter.unusedSimpArgs false
set_option linter.unusedVariables false
def Ex.root (o : Nat) (e : Ex) : Top := ⟨o + e.sz - 1, e.sz, e.dp⟩
def rootsF (o : Nat) : List Ex → List Top
  | [] => []
  | e :: F => e.root o :: rootsF (o + e.sz) F
def Ex.tops (o : Nat) : Ex → List Top
  | .leaf _ => [⟨o, 1, 1⟩]
  | .un _ e => e.tops o ++ [⟨o + e.sz, e.sz + 1, e.dp + 1⟩]
  | .bin _ e f => e.tops o ++ f.tops (o + e.sz) ++ [⟨o + e.sz + f.sz, e.sz + f.sz + 1, max e.dp f.dp + 1⟩]
def allF (o : Nat) : List Ex → List Top
  | [] => []
  | e :: F => e.tops o ++ allF (o + e.sz) F
theorem Ex.tops_length : ∀ (e : Ex) (o : Nat), (e.tops o).length = e.sz
  | .leaf _, o => by simp [Ex.tops, Ex.sz]
  | .un _ e, o => by simp [Ex.tops, Ex.sz, e.tops_length]
  | .bin _ e f, o => by simp [Ex.tops, Ex.sz, e.tops_length, f.tops_length]; omega
theorem own_iff (x : Node) (a b : Int) (h1 : 1 ≤ x.kind) (h2 : x.kind ≤ 19) : ownN x a b = x ↔ x.hd.ok ∧ x.a = a ∧ x.b = b := by
  obtain ⟨kd, nn, xa, xb, xp⟩ := x
  rw [own_eq]
  simp only at h1 h2
  constructor
  · rintro ⟨e1, e2, e3, e4⟩
    have p0 : 0 ≤ xp ∧ xp ≤ 400 := by
      repeat' split at e4
      all_goals omega
    have n0 : 0 ≤ nn ∧ (nn = 0 ∨ kd = 1) := by
      repeat' split at e1
      all_goals omega
    exact ⟨⟨h1, h2, n0.1, n0.2, p0.1, p0.2⟩, e2.symm, e3.symm⟩
  · rintro ⟨⟨_, _, n0, n1, p0, p1⟩, e2, e3⟩
    simp only [Node.hd] at n0 n1 p0 p1
    refine ⟨?_, e2.symm, e3.symm, ?_⟩
    · repeat' split
      all_goals omega
    · repeat' split
      all_goals omega
theorem tfold_fl : ∀ (e : Ex) (s a : List Top), e.wf → (e.fl a.length).foldlM topStep (s, a) = some (s ++ [e.root a.length], a ++ e.tops a.length)
  | .leaf x, s, a, h => by
    have hr : ownN (x.node 0 0) 0 0 = x.node 0 0 := (own_iff _ _ _ h.1.k1 h.1.k2).2 ⟨h.1, rfl, rfl⟩
    have hk : (x.node 0 0).kind ≤ 4 := h.2
    have hb : ¬ ((x.node 0 0).kind < 1 ∨ 19 < (x.node 0 0).kind) := by have := h.1.k1; have := h.1.k2; show ¬ (x.kind < 1 ∨ 19 < x.kind); omega
    simp only [Ex.fl, List.foldlM_cons, List.foldlM_nil, topStep]
    rw [if_neg hb, if_pos hk, if_pos hr]
    simp [Ex.root, Ex.tops, Ex.sz, Ex.dp]
  | .un x e, s, a, h => by
    have hp := e.sz_pos
    have hd := e.dp_pos
    have hr : ownN (x.node ((a.length + e.sz - 1 : Nat) : Int) 0) ((a.length + e.sz - 1 : Nat) : Int) 0 = x.node ((a.length + e.sz - 1 : Nat) : Int) 0 := (own_iff _ _ _ h.1.k1 h.1.k2).2 ⟨h.1, rfl, rfl⟩
    have hb : ¬ (x.kind < 1 ∨ 19 < x.kind) := by have := h.1.k1; have := h.1.k2; omega
    have hk : ¬ x.kind ≤ 4 := by have := h.2.1; omega
    have hg : (s ++ [e.root a.length]).getD ((s ++ [e.root a.length]).length - 1) default = e.root a.length := by simp [List.getD_eq_getElem?_getD]
    simp only [Ex.fl, List.foldlM_append, tfold_fl e s a h.2.2.2, Option.bind_eq_bind, Option.bind_some, List.foldlM_cons, List.foldlM_nil, topStep]
    rw [if_neg (show ¬ ((x.node _ 0).kind < 1 ∨ 19 < (x.node _ 0).kind) from hb), if_neg (show ¬ (x.node _ 0).kind ≤ 4 from hk), if_pos (show (x.node _ 0).kind ≤ 6 from h.2.2.1), if_neg (by simp), hg]
    rw [if_pos (show ownN (x.node _ 0) ((e.root a.length).pos : Int) 0 = _ from hr)]
    simp [Ex.root, Ex.tops, Ex.sz, Ex.dp, e.tops_length]
    omega
  | .bin x e f, s, a, h => by
    have hp := e.sz_pos
    have hq := f.sz_pos
    have hd := e.dp_pos
    have hd2 := f.dp_pos
    have hr : ownN (x.node ((a.length + e.sz - 1 : Nat) : Int) ((a.length + e.sz + f.sz - 1 : Nat) : Int)) ((a.length + e.sz - 1 : Nat) : Int) ((a.length + e.sz + f.sz - 1 : Nat) : Int) = x.node ((a.length + e.sz - 1 : Nat) : Int) ((a.length + e.sz + f.sz - 1 : Nat) : Int) :=
      (own_iff _ _ _ h.1.k1 h.1.k2).2 ⟨h.1, rfl, rfl⟩
    have hb : ¬ (x.kind < 1 ∨ 19 < x.kind) := by have := h.1.k1; have := h.1.k2; omega
    have hk : ¬ x.kind ≤ 6 := by have := h.2.1; omega
    have h2 := tfold_fl f (s ++ [e.root a.length]) (a ++ e.tops a.length) h.2.2.2
    rw [List.length_append, e.tops_length] at h2
    have hg : (s ++ [e.root a.length] ++ [f.root (a.length + e.sz)]).getD ((s ++ [e.root a.length] ++ [f.root (a.length + e.sz)]).length - 1) default = f.root (a.length + e.sz) := by simp [List.getD_eq_getElem?_getD]
    have hg2 : (s ++ [e.root a.length] ++ [f.root (a.length + e.sz)]).getD ((s ++ [e.root a.length] ++ [f.root (a.length + e.sz)]).length - 2) default = e.root a.length := by simp [List.getD_eq_getElem?_getD]
    simp only [Ex.fl, List.foldlM_append, tfold_fl e s a h.2.2.1, h2, Option.bind_eq_bind, Option.bind_some, List.foldlM_cons, List.foldlM_nil, topStep]
    rw [if_neg (show ¬ ((x.node _ _).kind < 1 ∨ 19 < (x.node _ _).kind) from hb), if_neg (show ¬ (x.node _ _).kind ≤ 4 by show ¬ x.kind ≤ 4; omega), if_neg (show ¬ (x.node _ _).kind ≤ 6 from hk), if_neg (by simp), hg, hg2]
    rw [if_pos (show ownN (x.node _ _) ((e.root a.length).pos : Int) ((f.root (a.length + e.sz)).pos : Int) = _ from hr)]
    simp [Ex.root, Ex.tops, Ex.sz, Ex.dp, e.tops_length, f.tops_length]
    omega
theorem tfold_flF : ∀ (F : List Ex) (s a : List Top), (∀ e ∈ F, e.wf) → (flF a.length F).foldlM topStep (s, a) = some (s ++ rootsF a.length F, a ++ allF a.length F)
  | [], s, a, h => by simp [flF, rootsF, allF]
  | e :: F, s, a, h => by
    have h2 := tfold_flF F (s ++ [e.root a.length]) (a ++ e.tops a.length) (fun f hf => h f (by simp [hf]))
    rw [List.length_append, e.tops_length] at h2
    simp [flF, List.foldlM_append, tfold_fl e s a (h e (by simp)), h2, rootsF, allF]
theorem topsF_flF {F : List Ex} (h : ∀ e ∈ F, e.wf) : topsF (flF 0 F) = some (rootsF 0 F, allF 0 F) := by
  have := tfold_flF F [] [] h
  simpa [topsF] using this
theorem rootsF_length : ∀ (F : List Ex) (o : Nat), (rootsF o F).length = F.length
  | [], o => rfl
  | e :: F, o => by simp [rootsF, rootsF_length F]
theorem rootsF_app : ∀ (F G : List Ex) (o : Nat), rootsF o (F ++ G) = rootsF o F ++ rootsF (o + szF F) G
  | [], G, o => by simp [rootsF, szF]
  | e :: F, G, o => by
    have := rootsF_app F G (o + e.sz)
    simp only [List.cons_append, rootsF, this, szF, List.map_cons, List.sum_cons, Nat.add_assoc]
theorem tforest_step {F : List Ex} {x : Node} {sa : List Top × List Top} (hw : ∀ e ∈ F, e.wf) (h : topStep (rootsF 0 F, allF 0 F) x = some sa) :
    ∃ G : List Ex, flF 0 F ++ [x] = flF 0 G ∧ (∀ e ∈ G, e.wf) := by
  unfold topStep at h
  simp only [rootsF_length] at h
  split at h
  · cases h
  rename_i hb
  split at h
  · rename_i hk
    split at h
    · rename_i hr
      obtain ⟨h1, h2, h3⟩ := (own_iff x _ _ (by omega) (by omega)).1 hr
      refine ⟨F ++ [.leaf x.hd], ?_, ?_⟩
      · rw [flF_app]
        simp only [flF, Ex.fl, List.append_nil]
        congr 2
        cases x; simp only [Hd.node, Node.hd] at h2 h3 ⊢; rw [h2, h3]
      · intro e he
        rcases List.mem_append.1 he with he | he
        · exact hw e he
        · simp at he; subst he; exact ⟨h1, hk⟩
    · cases h
  rename_i hk
  rcases snoc_cases F with rfl | ⟨F', e, rfl⟩
  · split at h
    · rw [if_pos (by simp)] at h; cases h
    · rw [if_pos (by simp)] at h; cases h
  have hroot : ∀ (G : List Ex) (f : Ex), rootsF 0 (G ++ [f]) = rootsF 0 G ++ [f.root (szF G)] := fun G f => by rw [rootsF_app]; simp [rootsF]
  have hew := hw e (by simp)
  split at h
  · rename_i hk6
    split at h
    · cases h
    split at h
    · rename_i hr
      have hg : (rootsF 0 (F' ++ [e])).getD ((F' ++ [e]).length - 1) default = e.root (szF F') := by
        rw [hroot]
        simp [List.getD_eq_getElem?_getD, rootsF_length]
      rw [hg] at hr
      obtain ⟨h1, h2, h3⟩ := (own_iff x _ _ (by omega) (by omega)).1 hr
      refine ⟨F' ++ [.un x.hd e], ?_, ?_⟩
      · rw [flF_app, flF_app]
        simp only [flF, Ex.fl, List.append_nil, List.append_assoc, Nat.zero_add]
        congr 3
        cases x; simp only [Hd.node, Node.hd, Ex.root] at h2 h3 ⊢; rw [h2, h3]
      · intro g hg
        rcases List.mem_append.1 hg with hg | hg
        · exact hw g (by simp [hg])
        · simp at hg; subst hg; exact ⟨h1, by show 4 < x.kind; omega, hk6, hew⟩
    · cases h
  · rename_i hk6
    rcases snoc_cases F' with rfl | ⟨F2, f, rfl⟩
    · rw [if_pos (by simp)] at h; cases h
    split at h
    · cases h
    split at h
    · rename_i hr
      have hg : (rootsF 0 (F2 ++ [f] ++ [e])).getD ((F2 ++ [f] ++ [e]).length - 1) default = e.root (szF (F2 ++ [f])) := by
        rw [hroot]
        simp [List.getD_eq_getElem?_getD, rootsF_length]
      have hg2 : (rootsF 0 (F2 ++ [f] ++ [e])).getD ((F2 ++ [f] ++ [e]).length - 2) default = f.root (szF F2) := by
        rw [hroot, hroot]
        simp [List.getD_eq_getElem?_getD, rootsF_length]
      rw [hg, hg2] at hr
      obtain ⟨h1, h2, h3⟩ := (own_iff x _ _ (by omega) (by omega)).1 hr
      refine ⟨F2 ++ [.bin x.hd f e], ?_, ?_⟩
      · rw [flF_app, flF_app, flF_app]
        simp only [flF, Ex.fl, List.append_nil, List.append_assoc, Nat.zero_add, szF_app]
        have e1 : szF [f] = f.sz := by simp [szF]
        rw [e1]
        congr 4
        cases x; simp only [Hd.node, Node.hd, Ex.root, szF_app, e1] at h2 h3 ⊢; rw [h2, h3]
      · intro g hg
        rcases List.mem_append.1 hg with hg | hg
        · exact hw g (by simp [hg])
        · simp at hg; subst hg; exact ⟨h1, by show 6 < x.kind; omega, hw f (by simp), hew⟩
    · cases h
theorem tforest_of : ∀ (l : List Node) (F : List Ex) (sa : List Top × List Top), (∀ e ∈ F, e.wf) → l.foldlM topStep (rootsF 0 F, allF 0 F) = some sa →
    ∃ G : List Ex, flF 0 F ++ l = flF 0 G ∧ (∀ e ∈ G, e.wf)
  | [], F, sa, hw, h => ⟨F, by simp, hw⟩
  | x :: l, F, sa, hw, h => by
    rw [List.foldlM_cons] at h
    cases hx : topStep (rootsF 0 F, allF 0 F) x with
    | none => simp [hx] at h
    | some sa1 =>
      obtain ⟨G, e1, e2⟩ := tforest_step hw hx
      have e3 : sa1 = (rootsF 0 G, allF 0 G) := by
        have h1 := topsF_flF e2
        have h2 := topsF_flF hw
        rw [← e1] at h1
        unfold topsF at h1 h2
        rw [List.foldlM_append, h2] at h1
        simp [hx] at h1
        exact h1
      subst e3
      rw [hx] at h
      obtain ⟨H, f1, f2⟩ := tforest_of l G sa e2 h
      exact ⟨H, by rw [← f1, ← e1]; simp, f2⟩
theorem topsF_some {l : List Node} {sa : List Top × List Top} (h : topsF l = some sa) : ∃ G : List Ex, l = flF 0 G ∧ (∀ e ∈ G, e.wf) ∧ sa = (rootsF 0 G, allF 0 G) := by
  obtain ⟨G, h1, h2⟩ := tforest_of l [] sa (by simp) h
  simp only [flF, List.nil_append] at h1
  refine ⟨G, h1, h2, ?_⟩
  rw [h1, topsF_flF h2] at h
  cases h; rfl
end Go.Proofs.Yteohklfoggiojaa
namespace Go.Proofs.Yteohklfoggiojaa
open Go.AL
set_option linter.unusedSimpArgs false
set_option linter.unusedVariables false
def IsEx (l : List Node) (e : Ex) : Prop := e.wf ∧ l = e.fl 0
open Classical in
noncomputable def treeO (l : List Node) : Option Ex := if h : ∃ e, IsEx l e then some (Classical.choose h) else none
theorem treeO_some {l : List Node} {e : Ex} (h : treeO l = some e) : IsEx l e := by
  unfold treeO at h
  split at h
  · rename_i hx; cases h; exact Classical.choose_spec hx
  · cases h
theorem treeO_none {l : List Node} (h : treeO l = none) (e : Ex) : ¬ IsEx l e := by
  unfold treeO at h
  split at h
  · cases h
  · rename_i hx; exact fun he => hx ⟨e, he⟩
theorem Ex.szs_end (e : Ex) : e.szs.getD (e.sz - 1) default = e.sz := by
  obtain ⟨l, hl⟩ := e.szs_last
  have h1 := e.szs_length
  rw [hl] at h1 ⊢
  simp at h1
  rw [← h1]
  simp [List.getD_eq_getElem?_getD]
theorem Ex.dps_end (e : Ex) : e.dps.getD (e.sz - 1) default = e.dp := by
  obtain ⟨l, hl⟩ := e.dps_last
  have h1 := e.dps_length
  rw [hl] at h1 ⊢
  simp at h1
  rw [← h1]
  simp [List.getD_eq_getElem?_getD]
theorem isEx_flF {l : List Node} {e : Ex} (h : IsEx l e) : l = flF 0 [e] := by rw [h.2]; simp [flF]
theorem IsEx.sizes {l : List Node} {e : Ex} (h : IsEx l e) : sizesF l = some (e.szs, e.dps) := by
  rw [isEx_flF h, sizesF_flF (by simpa using h.1)]; simp
theorem IsEx.tops {l : List Node} {e : Ex} (h : IsEx l e) : topsF l = some ([e.root 0], e.tops 0) := by
  rw [isEx_flF h, topsF_flF (by simpa using h.1)]; simp [rootsF, allF]
theorem IsEx.len {l : List Node} {e : Ex} (h : IsEx l e) : l.length = e.sz := by rw [h.2, e.fl_length]
theorem IsEx.uniq {l : List Node} {e f : Ex} (h : IsEx l e) (k : IsEx l f) : e.szs = f.szs ∧ e.dps = f.dps ∧ e.sz = f.sz ∧ e.dp = f.dp := by
  have h1 := h.sizes.symm.trans k.sizes
  simp only [Option.some.injEq, Prod.mk.injEq] at h1
  have h2 : e.sz = f.sz := by rw [← h.len, k.len]
  refine ⟨h1.1, h1.2, h2, ?_⟩
  rw [← e.dps_end, ← f.dps_end, h1.2, h2]
theorem sizes_no {l : List Node} (h : treeO l = none) {s d : List Nat} (hs : sizesF l = some (s, d)) : (decide (0 < l.length) && (s.getD (l.length - 1) default == l.length)) = false := by
  obtain ⟨G, rfl, hw, hsd⟩ := sizesF_forest hs
  simp only [Prod.mk.injEq] at hsd
  rcases snoc_cases G with rfl | ⟨F, e, rfl⟩
  · simp [flF]
  · rcases snoc_cases F with rfl | ⟨F2, f, rfl⟩
    · exact absurd ⟨hw e (by simp), by simp [flF]⟩ (treeO_none h e)
    · have h1 : s.getD (szF (F2 ++ [f] ++ [e]) - 1) 0 = e.sz := by
        rw [hsd.1]
        have hp := e.sz_pos
        have := szs_at ((F2 ++ [f]).flatMap Ex.szs) [] e (szF (F2 ++ [f] ++ [e]) - 1) (by rw [szs_lenF, szF_app (F2 ++ [f]) [e]]; simp [szF]; omega)
        simpa using this
      rw [flF_length]
      have h2 : szF (F2 ++ [f] ++ [e]) = szF F2 + f.sz + e.sz := by simp [szF]; omega
      have := f.sz_pos
      have h3 : s.getD (szF (F2 ++ [f] ++ [e]) - 1) default = e.sz := h1
      rw [h3, h2]
      simp
      omega
theorem tops_no {l : List Node} (h : treeO l = none) {s a : List Top} (hs : topsF l = some (s, a)) : (s.length == 1) = false := by
  obtain ⟨G, rfl, hw, hsd⟩ := topsF_some hs
  simp only [Prod.mk.injEq] at hsd
  rw [hsd.1, rootsF_length]
  match G, hw, h with
  | [], _, _ => rfl
  | [e], hw, h => exact absurd ⟨hw e (by simp), by simp [flF]⟩ (treeO_none h e)
  | _ :: _ :: _, _, _ => simp
noncomputable def errL (l : List Node) : Int := if 60 < l.length then 4 else match treeO l with
  | some e => if 20 < e.dp then 34 else 0
  | none => 8
theorem errL_ok {l : List Node} (h : errL l = 0) : ∃ e, treeO l = some e ∧ IsEx l e ∧ e.sz ≤ 60 ∧ e.dp ≤ 20 := by
  unfold errL at h
  split at h
  · omega
  · cases ht : treeO l with
    | none => rw [ht] at h; simp at h
    | some e =>
      rw [ht] at h
      simp only at h
      split at h
      · omega
      · have := treeO_some ht
        exact ⟨e, rfl, this, by rw [← this.len]; omega, by omega⟩
theorem errL_of {l : List Node} {e : Ex} (h : IsEx l e) (h1 : e.sz ≤ 60) (h2 : e.dp ≤ 20) : errL l = 0 := by
  unfold errL
  rw [if_neg (by rw [h.len]; omega)]
  cases ht : treeO l with
  | none => exact absurd h (treeO_none ht e)
  | some f =>
    simp only
    rw [if_neg (by have := (treeO_some ht).uniq h; omega)]
theorem Ex.tops_end (e : Ex) (o : Nat) : (e.tops o).getD (e.sz - 1) default = ⟨o + e.sz - 1, e.sz, e.dp⟩ := by
  cases e with
  | leaf x => simp [Ex.tops, Ex.sz, Ex.dp]
  | un x e =>
    have : (e.tops o).length = e.sz := e.tops_length o
    simp only [Ex.tops, Ex.sz, Ex.dp, Nat.add_sub_cancel]
    rw [List.getD_eq_getElem?_getD, List.getElem?_append_right (by omega), this]
    simp
  | bin x e f =>
    have h1 := e.tops_length o
    have h2 := f.tops_length (o + e.sz)
    simp only [Ex.tops, Ex.sz, Ex.dp, Nat.add_sub_cancel]
    rw [List.getD_eq_getElem?_getD, List.getElem?_append_right (by simp [h1, h2])]
    simp [h1, h2]
    omega
theorem Ex.tops_size : ∀ (e : Ex) (o : Nat), (e.tops o).map Top.size = e.szs
  | .leaf _, o => by simp [Ex.tops, Ex.szs]
  | .un _ e, o => by simp [Ex.tops, Ex.szs, e.tops_size]
  | .bin _ e f, o => by simp [Ex.tops, Ex.szs, e.tops_size, f.tops_size]
end Go.Proofs.Yteohklfoggiojaa
namespace Go.Proofs.Yteohklfoggiojaa
open Go.AL
set_option linter.unusedSimpArgs false
set_option linter.unusedVariables false
def mvN (by_ : Int) (x : Node) : Node := ⟨x.kind, x.n, if 0 < partsN x.kind then x.a + by_ else x.a, if 1 < partsN x.kind then x.b + by_ else x.b, x.pos⟩
theorem mv_step {l : List Node} {b : Int} {k : Nat} {y : Node} (hk : k < l.length) (hy : l.getD k default = y) :
    (l.take (k + 1)).map (mvN b) ++ l.drop (k + 1) = ((l.take k).map (mvN b) ++ l.drop k).set k (mvN b y) := by
  have e : l.drop k = y :: l.drop (k + 1) := by
    rw [List.drop_eq_getElem_cons hk]
    rw [List.getD_eq_getElem?_getD, List.getElem?_eq_getElem hk] at hy
    rw [show l[k] = y from hy]
  have e2 : l.take (k + 1) = l.take k ++ [y] := by
    rw [List.take_add_one, List.getElem?_eq_getElem hk]
    rw [List.getD_eq_getElem?_getD, List.getElem?_eq_getElem hk] at hy
    rw [show l[k] = y from hy]; rfl
  rw [e2, e, List.map_append, List.append_assoc, List.set_append_right _ _ (by simp; omega)]
  have : k - ((l.take k).map (mvN b)).length = 0 := by simp; omega
  rw [this]; rfl
theorem mv_cells {l : List Node} {b : Int} {k : Nat} {y : Node} (hk : k < l.length) (hy : l.getD k default = y) :
    ((l.take (k + 1)).map (mvN b) ++ l.drop (k + 1)).map Node.cells = (((l.take k).map (mvN b) ++ l.drop k).map Node.cells).set k (mvN b y).cells := by
  rw [mv_step hk hy, List.map_set]
theorem mv_same {l : List Node} {b : Int} {k : Nat} {y : Node} (hk : k < l.length) (hy : l.getD k default = y) (hm : mvN b y = y) :
    (l.take (k + 1)).map (mvN b) ++ l.drop (k + 1) = (l.take k).map (mvN b) ++ l.drop k := by
  have e : l.drop k = y :: l.drop (k + 1) := by
    rw [List.drop_eq_getElem_cons hk]
    rw [List.getD_eq_getElem?_getD, List.getElem?_eq_getElem hk] at hy
    rw [show l[k] = y from hy]
  have e2 : l.take (k + 1) = l.take k ++ [y] := by
    rw [List.take_add_one, List.getElem?_eq_getElem hk]
    rw [List.getD_eq_getElem?_getD, List.getElem?_eq_getElem hk] at hy
    rw [show l[k] = y from hy]; rfl
  rw [e2, e, List.map_append, List.append_assoc]
  show _ ++ ([mvN b y] ++ _) = _
  rw [hm]; rfl
def cutL (l : List Node) (off size : Nat) : List Node := ((l.drop off).take size).map (mvN (-(off : Int)))
end Go.Proofs.Yteohklfoggiojaa
namespace Go.Proofs.Yteohklfoggiojaa
open Go.AL
set_option linter.unusedSimpArgs false
set_option linter.unusedVariables false
structure Sub (e : Ex) (o j : Nat) (f : Ex) (pre post : List Node) (sp st : List Nat) : Prop where
  fl : e.fl o = pre ++ f.fl (o + pre.length) ++ post
  szs : e.szs = sp ++ f.szs ++ st
  len : sp.length = pre.length
  pos : pre.length + f.sz = j + 1
  wf : f.wf
  dp : f.dp ≤ e.dp
theorem partsN_leaf {x : Hd} (h : x.ok) (k : x.kind ≤ 4) : partsN x.kind = 0 := by have := h.k1; unfold partsN; rw [if_pos (by omega)]
theorem partsN_un {x : Hd} (h1 : 4 < x.kind) (h2 : x.kind ≤ 6) : partsN x.kind = 1 := by unfold partsN; rw [if_neg (by omega), if_pos (by omega)]
theorem partsN_bin {x : Hd} (h : x.ok) (h1 : 6 < x.kind) : partsN x.kind = 2 := by have := h.k2; unfold partsN; rw [if_neg (by omega), if_neg (by omega), if_pos (by omega)]
theorem Ex.mv : ∀ (e : Ex) (o : Nat), e.wf → (e.fl o).map (mvN (-(o : Int))) = e.fl 0 := by
  suffices H : ∀ (e : Ex) (o d : Nat), e.wf → (e.fl (d + o)).map (mvN (-(d : Int))) = e.fl o by
    intro e o hw; have := H e 0 o hw; simpa using this
  intro e
  induction e with
  | leaf x => intro o d hw; simp [Ex.fl, mvN, Hd.node, partsN_leaf hw.1 hw.2]
  | un x e ih =>
    intro o d hw
    have hp := e.sz_pos
    simp only [Ex.fl, List.map_append, ih o d hw.2.2.2, List.map_cons, List.map_nil]
    congr 1
    simp [mvN, Hd.node, partsN_un hw.2.1 hw.2.2.1]
    omega
  | bin x e f ih1 ih2 =>
    intro o d hw
    have hp := e.sz_pos
    have hp2 := f.sz_pos
    have hh := ih2 (o + e.sz) d hw.2.2.2
    rw [← Nat.add_assoc] at hh
    simp only [Ex.fl, List.map_append, ih1 o d hw.2.2.1, hh, List.map_cons, List.map_nil]
    congr 1
    simp [mvN, Hd.node, partsN_bin hw.1 hw.2.1]
    omega
theorem getD_mid {α : Type} [Inhabited α] (pre m post : List α) (i j : Nat) (hj : j = pre.length + i) (hi : i < m.length) : (pre ++ m ++ post).getD j default = m.getD i default := by
  subst hj
  rw [List.getD_eq_getElem?_getD, List.getElem?_append_left (by simp; omega), List.getElem?_append_right (by omega), List.getD_eq_getElem?_getD]
  congr 2; omega
theorem Ex.ab_bd : ∀ (e : Ex) (o : Nat), ∀ x ∈ e.fl o, 0 ≤ x.a ∧ x.a ≤ o + e.sz ∧ 0 ≤ x.b ∧ x.b ≤ o + e.sz
  | .leaf x, o, y, hy => by simp [Ex.fl] at hy; subst hy; simp [Hd.node]; omega
  | .un x e, o, y, hy => by
    simp only [Ex.fl, List.mem_append, List.mem_singleton] at hy
    rcases hy with hy | rfl
    · have := e.ab_bd o y hy; simp [Ex.sz]; omega
    · simp [Hd.node, Ex.sz]; omega
  | .bin x e f, o, y, hy => by
    simp only [Ex.fl, List.mem_append, List.mem_singleton] at hy
    rcases hy with (hy | hy) | rfl
    · have := e.ab_bd o y hy; simp [Ex.sz]; omega
    · have := f.ab_bd (o + e.sz) y hy; simp [Ex.sz] at *; omega
    · simp [Hd.node, Ex.sz]; omega
end Go.Proofs.Yteohklfoggiojaa
namespace Go.Proofs.Yteohklfoggiojaa
open Go.AL
set_option linter.unusedSimpArgs false
set_option linter.unusedVariables false
def Node.setp (p : Int) (x : Node) : Node := ⟨x.kind, x.n, x.a, x.b, p⟩
def sameN (a b : List Node) : Bool := decide (a.map (Node.setp 0) = b.map (Node.setp 0))
theorem sameN_len {a b : List Node} (h : sameN a b = true) : a.length = b.length := by
  have := congrArg List.length (of_decide_eq_true h); simpa using this
theorem sameN_at {a b : List Node} (h : sameN a b = true) (j : Nat) : (a.getD j default).setp 0 = (b.getD j default).setp 0 := by
  have h2 := of_decide_eq_true h
  have h1 : ∀ l : List Node, (l.map (Node.setp 0)).getD j default = (l.getD j default).setp 0 := fun l => by
    simp only [List.getD_eq_getElem?_getD, List.getElem?_map]
    cases l[j]? <;> rfl
  rw [← h1, ← h1, h2]
theorem sameN_of {a b : List Node} (hl : a.length = b.length) (h : ∀ j, j < a.length → (a.getD j default).setp 0 = (b.getD j default).setp 0) : sameN a b = true := by
  refine decide_eq_true (List.ext_getElem (by simpa using hl) fun j h1 h2 => ?_)
  have h1' : j < a.length := by simpa using h1
  have h2' : j < b.length := by simpa using h2
  have := h j h1'
  simp only [List.getD_eq_getElem?_getD, List.getElem?_eq_getElem h1', List.getElem?_eq_getElem h2', Option.getD_some] at this
  simpa using this
def Hd.setp (p : Int) (x : Hd) : Hd := ⟨x.kind, x.n, p⟩
def Ex.setp (p : Int) : Ex → Ex
  | .leaf x => .leaf (x.setp p)
  | .un x e => .un (x.setp p) (e.setp p)
  | .bin x e f => .bin (x.setp p) (e.setp p) (f.setp p)
theorem Ex.setp_sz (p : Int) : ∀ e : Ex, (e.setp p).sz = e.sz
  | .leaf x => rfl
  | .un x e => by simp [Ex.setp, Ex.sz, e.setp_sz p]
  | .bin x e f => by simp [Ex.setp, Ex.sz, e.setp_sz p, f.setp_sz p]
theorem Ex.setp_fl (p : Int) : ∀ (e : Ex) (o : Nat), (e.setp p).fl o = (e.fl o).map (Node.setp p)
  | .leaf x, o => rfl
  | .un x e, o => by simp only [Ex.setp, Ex.fl, e.setp_fl p, e.setp_sz p, List.map_append]; rfl
  | .bin x e f, o => by simp only [Ex.setp, Ex.fl, e.setp_fl p, f.setp_fl p, e.setp_sz p, f.setp_sz p, List.map_append]; rfl
theorem Hd.ok.setp {x : Hd} (h : x.ok) {p : Int} (h1 : 0 ≤ p) (h2 : p ≤ 400) : (x.setp p).ok := ⟨h.k1, h.k2, h.n0, h.n1, h1, h2⟩
theorem Ex.setp_wf {p : Int} (h1 : 0 ≤ p) (h2 : p ≤ 400) : ∀ e : Ex, e.wf → (e.setp p).wf
  | .leaf x, h => ⟨h.1.setp h1 h2, h.2⟩
  | .un x e, h => ⟨h.1.setp h1 h2, h.2.1, h.2.2.1, e.setp_wf h1 h2 h.2.2.2⟩
  | .bin x e f, h => ⟨h.1.setp h1 h2, h.2.1, e.setp_wf h1 h2 h.2.2.1, f.setp_wf h1 h2 h.2.2.2⟩
theorem IsEx.setp {l : List Node} {e : Ex} (h : IsEx l e) {p : Int} (h1 : 0 ≤ p) (h2 : p ≤ 400) : IsEx (l.map (Node.setp p)) (e.setp p) :=
  ⟨e.setp_wf h1 h2 h.1, by rw [h.2, e.setp_fl]⟩
theorem Ex.hds : ∀ (e : Ex) (o : Nat), e.wf → ∀ x ∈ e.fl o, x.hd.ok
  | .leaf x, o, hw, y, hy => by simp [Ex.fl] at hy; subst hy; exact hw.1
  | .un x e, o, hw, y, hy => by
    simp only [Ex.fl, List.mem_append, List.mem_singleton] at hy
    rcases hy with hy | rfl
    · exact e.hds o hw.2.2.2 y hy
    · exact hw.1
  | .bin x e f, o, hw, y, hy => by
    simp only [Ex.fl, List.mem_append, List.mem_singleton] at hy
    rcases hy with (hy | hy) | rfl
    · exact e.hds o hw.2.2.1 y hy
    · exact f.hds _ hw.2.2.2 y hy
    · exact hw.1
theorem IsEx.hd {l : List Node} {e : Ex} (h : IsEx l e) : ∀ x ∈ l, x.hd.ok := fun x hx => e.hds 0 h.1 x (h.2 ▸ hx)
end Go.Proofs.Yteohklfoggiojaa
