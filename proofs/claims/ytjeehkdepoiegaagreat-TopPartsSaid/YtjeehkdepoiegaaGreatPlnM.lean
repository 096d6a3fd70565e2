/-
  Plain models of events, tasks, late records, lists of nodes, trees, kinds, values and clauses; no program in sight.
-/
import Derived.Test.YtjeehkdepoiegaaGreatAbsS
import Derived.Test.YtjeehkdepoiegaaGreatAbsD
namespace Go.Proofs.YtjeehkdepoiegaaGreat
open Go.AL
set_option linter.unusedSimpArgs false
set_option linter.unusedVariables false
structure Ev where
  mark : Bool
  time : Int
  key : Int
  rt : Int
  value : Int
  deriving DecidableEq, Inhabited
def Ev.cells (e : Ev) : List AV := [.lit (.bool e.mark), .lit (.int .i64 e.time), .lit (.int .i64 e.key), .lit (.int .i64 e.rt), .lit (.int .i64 e.value)]
def evsV (l : List Ev) : AV := .ro 5 (l.map Ev.cells)
def isTimeB (t : Int) : Bool := decide (-1099511627776 ≤ t) && decide (t ≤ 1099511627776)
def markB (t : Int) : Bool := isTimeB t || t == 9223372036854775807
def okE (e : Ev) : Bool := if e.mark = true then markB e.time && (e.key == 0 && (e.rt == 0 && e.value == 0)) else e.time == 0 && isTimeB e.rt
def errE (e : Ev) : Int := if okE e = true then 0 else 8
structure Msg where
  kind : Int
  key : Int
  rt : Int
  value : Int
  time : Int
  r1 : Int
  r2 : Int
  r3 : Int
  r4 : Int
  r5 : Int
  deriving DecidableEq, Inhabited
def Msg.cells (m : Msg) : List AV := [.lit (.int .u8 m.kind), .lit (.int .i64 m.key), .lit (.int .i64 m.rt), .lit (.int .i64 m.value), .lit (.int .i64 m.time),
  .lit (.int .i64 m.r1), .lit (.int .i64 m.r2), .lit (.int .i64 m.r3), .lit (.int .i64 m.r4), .lit (.int .i64 m.r5)]
def msgE (e : Ev) : Msg :=
  if okE e = true then (if e.mark = true then ⟨2, 0, 0, 0, e.time, 0, 0, 0, 0, 0⟩ else ⟨1, e.key, e.rt, e.value, 0, 0, 0, 0, 0, 0⟩) else ⟨0, 0, 0, 0, 0, 0, 0, 0, 0, 0⟩
end Go.Proofs.YtjeehkdepoiegaaGreat
namespace Go.Proofs.YtjeehkdepoiegaaGreat
open Go.AL
set_option linter.unusedSimpArgs false
set_option linter.unusedVariables false
instance : Inhabited Msg := ⟨⟨0, 0, 0, 0, 0, 0, 0, 0, 0, 0⟩⟩
structure Snd where
  out : Int
  m : Msg
  deriving DecidableEq, Inhabited
def Snd.cells (s : Snd) : List AV := .lit (.int .i64 s.out) :: s.m.cells
structure RowT where
  key : Int
  s : Int
  e : Int
  v0 : Int
  v1 : Int
  deriving DecidableEq, Inhabited
def RowT.cells (r : RowT) : List AV := [.lit (.int .i64 r.key), .lit (.int .i64 r.s), .lit (.int .i64 r.e), .lit (.int .i64 r.v0), .lit (.int .i64 r.v1)]
structure Rcd where
  key : Int
  t : Int
  v : Int
  deriving DecidableEq, Inhabited
def Rcd.cells (r : Rcd) : List AV := [.lit (.int .i64 r.key), .lit (.int .i64 r.t), .lit (.int .i64 r.v)]
structure Ent where
  key : Int
  s : Int
  e : Int
  c0 : Int
  s0 : Int
  m0 : Int
  x0 : Int
  c1 : Int
  s1 : Int
  m1 : Int
  x1 : Int
  deriving DecidableEq, Inhabited
def Ent.cells (r : Ent) : List AV := [.lit (.int .i64 r.key), .lit (.int .i64 r.s), .lit (.int .i64 r.e), .lit (.int .i64 r.c0), .lit (.int .i64 r.s0), .lit (.int .i64 r.m0), .lit (.int .i64 r.x0), .lit (.int .i64 r.c1), .lit (.int .i64 r.s1), .lit (.int .i64 r.m1), .lit (.int .i64 r.x1)]
def intC (x : Int) : List AV := [.lit (.int .i64 x)]
structure Tsk where
  kind : Int
  n : Int
  turn : Int
  pend : List Snd
  marks : List Int
  store : List Ent
  evs : List Ev
  rows : List RowT
  late : List Rcd
  deriving DecidableEq, Inhabited
structure Tsk.ok (t : Tsk) : Prop where
  p : t.pend.length ≤ maxLen
  m : t.marks.length ≤ maxLen
  s : t.store.length ≤ maxLen
  e : t.evs.length ≤ maxLen
  r : t.rows.length ≤ maxLen
  l : t.late.length ≤ maxLen
def sndsV (l : List Snd) : AV := .ro 11 (l.map Snd.cells)
def mksV (l : List Int) : AV := .ro 1 (l.map intC)
def entsV (l : List Ent) : AV := .ro 11 (l.map Ent.cells)
def rowsV (l : List RowT) : AV := .ro 5 (l.map RowT.cells)
def rcdsV (l : List Rcd) : AV := .ro 3 (l.map Rcd.cells)
def msgsV (l : List Msg) : AV := .ro 10 (l.map Msg.cells)
def Tsk.cells (t : Tsk) : List AV := [.lit (.int .u8 t.kind), .lit (.int .i64 t.n), .lit (.int .i64 t.turn), sndsV t.pend, mksV t.marks, entsV t.store, evsV t.evs, rowsV t.rows, rcdsV t.late]
/-! ### what is valid -/
def rowB (s e : Int) : Bool := decide (-2199023255552 ≤ s) && (decide (s < e) && decide (e ≤ 2199023255552))
def validM (m : Msg) : Bool :=
  if m.kind = 1 ∨ m.kind = 4 then isTimeB m.rt && decide (m.time = 0 ∧ m.r1 = 0 ∧ m.r2 = 0 ∧ m.r3 = 0 ∧ m.r4 = 0 ∧ m.r5 = 0)
  else if m.kind = 2 then markB m.time && decide (m.key = 0 ∧ m.rt = 0 ∧ m.value = 0 ∧ m.r1 = 0 ∧ m.r2 = 0 ∧ m.r3 = 0 ∧ m.r4 = 0 ∧ m.r5 = 0)
  else if m.kind = 3 then rowB m.r2 m.r3 && decide (m.key = 0 ∧ m.rt = 0 ∧ m.value = 0 ∧ m.time = 0)
  else false
def sendB (s : Snd) : Bool := decide (0 ≤ s.out ∧ s.out < 3) && validM s.m
def lowB (t : Int) : Bool := t == -9223372036854775808 || markB t
def accB (c s m x : Int) : Bool := decide ((c = 0 ∧ s = 0 ∧ m = 0 ∧ x = 0) ∨ (c = 1 ∧ s = m ∧ s = x) ∨ (1 < c ∧ c ≤ 1073741824 ∧ m ≤ x))
def rightE (r : Ent) : Bool := decide (-1100585369600 ≤ r.s ∧ r.s < r.e ∧ r.e ≤ 1100585369600) && (accB r.c0 r.s0 r.m0 r.x0 && (accB r.c1 r.s1 r.m1 r.x1 && decide (0 < r.c0 + r.c1)))
def lessE (a b : Ent) : Bool := decide (a.e < b.e ∨ (a.e = b.e ∧ (a.s < b.s ∨ (a.s = b.s ∧ a.key < b.key))))
def allN (n : Nat) (p : Nat → Bool) : Bool := (List.range n).all p
theorem allN_true {n : Nat} {p : Nat → Bool} (h : ∀ j, j < n → p j = true) : allN n p = true := by
  unfold allN
  rw [List.all_eq_true]
  exact fun j hj => h j (List.mem_range.1 hj)
theorem allN_false {n k : Nat} {p : Nat → Bool} (hk : k < n) (h : p k = false) : allN n p = false := by
  unfold allN
  rw [List.all_eq_false]
  exact ⟨k, List.mem_range.2 hk, by rw [h]; simp⟩
theorem allN_spec {n : Nat} {p : Nat → Bool} (h : allN n p = true) (k : Nat) (hk : k < n) : p k = true := by
  unfold allN at h
  exact List.all_eq_true.1 h k (List.mem_range.2 hk)
theorem allN_succ (n : Nat) (p : Nat → Bool) : allN (n + 1) p = (allN n p && p n) := by
  unfold allN
  rw [List.range_succ, List.all_append]
  simp
def allL {α : Type} [Inhabited α] (l : List α) (p : α → Bool) : Bool := allN l.length fun k => p (l.getD k default)
theorem allL_all {α : Type} [Inhabited α] (l : List α) (p : α → Bool) : allL l p = l.all p := by
  unfold allL
  rw [Bool.eq_iff_iff, List.all_eq_true]
  constructor
  · intro h x hx
    obtain ⟨i, hi, rfl⟩ := List.getElem_of_mem hx
    have := allN_spec h i hi
    simpa [List.getD_eq_getElem?_getD, List.getElem?_eq_getElem hi] using this
  · intro h
    refine allN_true fun j hj => ?_
    have := h (l[j]) (List.getElem_mem hj)
    simpa [List.getD_eq_getElem?_getD, List.getElem?_eq_getElem hj] using this
def entAt (l : List Ent) (k : Nat) : Bool := rightE (l.getD k default) && (decide (k = 0) || lessE (l.getD (k - 1) default) (l.getD k default))
def storeE (l : List Ent) : Int := if 4000 < l.length then 4 else if allN l.length (entAt l) = true then 0 else 8
def keptB (t : Tsk) : Bool := decide (
  (t.kind = 1 ∧ t.marks.length = 0 ∧ t.store.length = 0 ∧ t.evs.length ≤ 60 ∧ t.rows.length = 0 ∧ t.late.length = 0) ∨
  (t.kind = 2 ∧ t.marks.length = 1 ∧ t.store.length = 0 ∧ t.evs.length = 0 ∧ t.rows.length = 0 ∧ t.late.length = 0) ∨
  (t.kind = 3 ∧ t.marks.length = 0 ∧ t.store.length = 0 ∧ t.evs.length = 0 ∧ t.rows.length = 0 ∧ t.late.length = 0) ∨
  (t.kind = 4 ∧ 1 ≤ t.marks.length ∧ t.marks.length ≤ 4 ∧ t.evs.length = 0 ∧ t.rows.length = 0 ∧ t.late.length = 0) ∨
  (t.kind = 5 ∧ t.marks.length = 2 ∧ t.evs.length = 0 ∧ t.rows.length = 0 ∧ t.late.length = 0) ∨
  (t.kind = 6 ∧ t.marks.length = 0 ∧ t.store.length = 0 ∧ t.evs.length = 0 ∧ t.rows.length ≤ 4000 ∧ t.late.length = 0) ∨
  (t.kind = 7 ∧ t.marks.length = 0 ∧ t.store.length = 0 ∧ t.evs.length = 0 ∧ t.rows.length = 0 ∧ t.late.length ≤ 4000))
def oneB (t : Tsk) (x : Ent) : Bool := !(t.kind == 4) || x.c1 == 0
def listsB (t : Tsk) : Bool := allL t.marks lowB && (allL t.evs okE && (allL t.rows (fun r => rowB r.s r.e) && allL t.late (fun r => isTimeB r.t)))
def numsB (t : Tsk) : Bool := decide (0 ≤ t.turn ∧ t.turn < 20 ∧ 0 ≤ t.n ∧ t.n < 4)
def goodT (t : Tsk) : Bool := numsB t && (decide (t.pend.length ≤ 4000) && (keptB t && (allL t.pend sendB && (decide (storeE t.store = 0) && (listsB t && allL t.store (oneB t))))))
def tskE (t : Tsk) : Int := if goodT t = true then 0 else 8
end Go.Proofs.YtjeehkdepoiegaaGreat
namespace Go.Proofs.YtjeehkdepoiegaaGreat
open Go.AL
set_option linter.unusedSimpArgs false
set_option linter.unusedVariables false
def lowM : Int := -9223372036854775808
def markU (m : Int) (e : Ev) : Int := if e.mark = true then max m e.time else m
def oneL (b : Bool) (m : Int) (e : Ev) : List Rcd := if e.mark = true then [] else if decide (e.rt < m) = b then [⟨e.key, e.rt, e.value⟩] else []
def splitG (b : Bool) : Int → List Ev → List Rcd
  | _, [] => []
  | m, e :: l => oneL b m e ++ splitG b (markU m e) l
theorem splitG_snoc (b : Bool) (e : Ev) : ∀ (l : List Ev) (m : Int), splitG b m (l ++ [e]) = splitG b m l ++ oneL b (l.foldl markU m) e
  | [], m => by simp [splitG]
  | x :: l, m => by
    show oneL b m x ++ splitG b (markU m x) (l ++ [e]) = (oneL b m x ++ splitG b (markU m x) l) ++ oneL b (l.foldl markU (markU m x)) e
    rw [splitG_snoc b e l, List.append_assoc]
def raisedG : Int → List Ev → Nat
  | _, [] => 0
  | m, e :: l => (if e.mark = true ∧ m < e.time then 1 else 0) + raisedG (markU m e) l
theorem raisedG_snoc (e : Ev) : ∀ (l : List Ev) (m : Int), raisedG m (l ++ [e]) = raisedG m l + (if e.mark = true ∧ l.foldl markU m < e.time then 1 else 0)
  | [], m => Nat.add_comm _ _
  | x :: l, m => by
    show (if x.mark = true ∧ m < x.time then 1 else 0) + raisedG (markU m x) (l ++ [e]) = ((if x.mark = true ∧ m < x.time then 1 else 0) + raisedG (markU m x) l) + (if e.mark = true ∧ l.foldl markU (markU m x) < e.time then 1 else 0)
    rw [raisedG_snoc e l, Nat.add_assoc]
theorem take_snocE {l : List Ev} {k : Nat} {e : Ev} (hk : k < l.length) (h : l.getD k default = e) : l.take (k + 1) = l.take k ++ [e] := by
  rw [List.getD_eq_getElem?_getD, List.getElem?_eq_getElem hk] at h
  rw [← h]
  simp
theorem oneL_len (b : Bool) (m : Int) (e : Ev) : (oneL b m e).length ≤ 1 := by
  unfold oneL; split <;> (try split) <;> simp
theorem splitG_len (b : Bool) : ∀ (l : List Ev) (m : Int), (splitG b m l).length ≤ l.length
  | [], m => by simp [splitG]
  | x :: l, m => by
    have h1 := oneL_len b m x
    have h2 := splitG_len b l (markU m x)
    simp only [splitG, List.length_append, List.length_cons]
    omega
end Go.Proofs.YtjeehkdepoiegaaGreat
namespace Go.Proofs.YtjeehkdepoiegaaGreat
open Go.AL
set_option linter.unusedSimpArgs false
set_option linter.unusedVariables false
structure Node where
  kind : Int
  n : Int
  a : Int
  b : Int
  pos : Int
  deriving DecidableEq, Inhabited
def Node.cells (x : Node) : List AV := [.lit (.int .u8 x.kind), .lit (.int .i64 x.n), .lit (.int .i64 x.a), .lit (.int .i64 x.b), .lit (.int .i64 x.pos)]
def nodesV (l : List Node) : AV := .ro 5 (l.map Node.cells)
def natsV (l : List Nat) : AV := .ro 1 (l.map fun x : Nat => [.lit (.int .i64 (x : Int))])
def countI (k : Int) : Int := if k ≤ 4 then 0 else if k ≤ 6 then 1 else 2
def rightB (x : Node) (a b : Int) : Bool :=
  decide (1 ≤ x.kind) && decide (x.kind ≤ 19) && decide (0 ≤ x.n) && (x.n == 0 || x.kind == 1) && decide (0 ≤ x.pos) && decide (x.pos ≤ 400) && x.a == a && x.b == b
def stepN (sd : List Nat × List Nat) (x : Node) : Option (List Nat × List Nat) :=
  let i := sd.1.length
  if x.kind ≤ 4 then (if rightB x 0 0 = true then some (sd.1 ++ [1], sd.2 ++ [1]) else none)
  else if i = 0 then none
  else
    let s1 := sd.1.getD (i - 1) 0
    let d1 := sd.2.getD (i - 1) 0
    if x.kind ≤ 6 then (if rightB x ((i - 1 : Nat) : Int) 0 = true then some (sd.1 ++ [1 + s1], sd.2 ++ [1 + d1]) else none)
    else if i - 1 < s1 then none
    else
      let j := i - 1 - s1
      if rightB x (j : Int) ((i - 1 : Nat) : Int) = true then some (sd.1 ++ [1 + s1 + sd.1.getD j 0], sd.2 ++ [max (1 + d1) (1 + sd.2.getD j 0)]) else none
def sizesF (l : List Node) : Option (List Nat × List Nat) := l.foldlM stepN ([], [])
theorem stepN_eq {s d : List Nat} {k : Nat} {x : Node} (hs : s.length = k) : stepN (s, d) x =
    if countI x.kind ≤ 0 then (if rightB x 0 0 = true then some (s ++ [1], d ++ [1]) else none)
    else if (k : Int) - 1 < 0 then none
    else if countI x.kind = 2 then
      if (k : Int) - 1 - (s.getD ((k : Int) - 1).toNat default : Nat) < 0 then none
      else if rightB x ((k : Int) - 1 - (s.getD ((k : Int) - 1).toNat default : Nat)) ((k : Int) - 1) = true then
        some (s ++ [1 + s.getD ((k : Int) - 1).toNat default + s.getD ((k : Int) - 1 - (s.getD ((k : Int) - 1).toNat default : Nat)).toNat default],
          d ++ [if (1 + d.getD ((k : Int) - 1 - (s.getD ((k : Int) - 1).toNat default : Nat)).toNat default) > (1 + d.getD ((k : Int) - 1).toNat default) then 1 + d.getD ((k : Int) - 1 - (s.getD ((k : Int) - 1).toNat default : Nat)).toNat default else 1 + d.getD ((k : Int) - 1).toNat default])
      else none
    else if rightB x ((k : Int) - 1) 0 = true then some (s ++ [1 + s.getD ((k : Int) - 1).toNat default], d ++ [1 + d.getD ((k : Int) - 1).toNat default]) else none := by
  subst hs
  have e1 : ((s.length : Int) - 1).toNat = s.length - 1 := by omega
  have hd : ∀ (l : List Nat) (i : Nat), l.getD i default = l.getD i 0 := fun _ _ => rfl
  simp only [e1, hd]
  by_cases h4 : x.kind ≤ 4
  · simp only [stepN, countI, if_pos h4]
    rw [if_pos (Int.le_refl 0)]
  · by_cases hk : s.length = 0
    · simp only [stepN, if_neg h4, if_pos hk]
      rw [if_neg (by unfold countI; rw [if_neg h4]; split <;> omega), if_pos (by omega)]
    · have e2 : ((s.length - 1 : Nat) : Int) = (s.length : Int) - 1 := by omega
      by_cases h6 : x.kind ≤ 6
      · simp only [stepN, countI, if_neg h4, if_neg hk, if_pos h6, e2]
        rw [if_neg (show ¬ ((1 : Int) ≤ 0) by omega), if_neg (show ¬ ((s.length : Int) - 1 < 0) by omega), if_neg (show ¬ ((1 : Int) = 2) by omega)]
      · simp only [stepN, countI, if_neg h4, if_neg hk, if_neg h6, e2]
        rw [if_neg (show ¬ ((2 : Int) ≤ 0) by omega), if_neg (show ¬ ((s.length : Int) - 1 < 0) by omega), if_pos trivial]
        by_cases hlt : s.length - 1 < s.getD (s.length - 1) 0
        · rw [if_pos hlt, if_pos (show ((s.length : Int) - 1 - (s.getD (s.length - 1) 0 : Nat) < 0) by omega)]
        · rw [if_neg hlt, if_neg (show ¬ ((s.length : Int) - 1 - (s.getD (s.length - 1) 0 : Nat) < 0) by omega)]
          have e3 : ((s.length - 1 - s.getD (s.length - 1) 0 : Nat) : Int) = (s.length : Int) - 1 - (s.getD (s.length - 1) 0 : Nat) := by omega
          have e4 : ((s.length : Int) - 1 - (s.getD (s.length - 1) 0 : Nat)).toNat = s.length - 1 - s.getD (s.length - 1) 0 := by omega
          rw [e3, e4]
          have e5 : ∀ a b : Nat, (if b > a then b else a) = max a b := fun a b => by rw [Nat.max_def]; split <;> split <;> omega
          rw [e5]
/-! ### trees -/
structure Hd where
  kind : Int
  n : Int
  pos : Int
  deriving DecidableEq, Inhabited
inductive Ex where
  | leaf (x : Hd)
  | un (x : Hd) (e : Ex)
  | bin (x : Hd) (e f : Ex)
  deriving DecidableEq, Inhabited
def Hd.node (x : Hd) (a b : Int) : Node := ⟨x.kind, x.n, a, b, x.pos⟩
def Node.hd (x : Node) : Hd := ⟨x.kind, x.n, x.pos⟩
def Ex.sz : Ex → Nat
  | .leaf _ => 1
  | .un _ e => e.sz + 1
  | .bin _ e f => e.sz + f.sz + 1
def Ex.dp : Ex → Nat
  | .leaf _ => 1
  | .un _ e => e.dp + 1
  | .bin _ e f => max e.dp f.dp + 1
def Ex.hd : Ex → Hd
  | .leaf x => x
  | .un x _ => x
  | .bin x _ _ => x
def Ex.fl (o : Nat) : Ex → List Node
  | .leaf x => [x.node 0 0]
  | .un x e => e.fl o ++ [x.node ((o + e.sz - 1 : Nat) : Int) 0]
  | .bin x e f => e.fl o ++ f.fl (o + e.sz) ++ [x.node ((o + e.sz - 1 : Nat) : Int) ((o + e.sz + f.sz - 1 : Nat) : Int)]
def Ex.szs : Ex → List Nat
  | .leaf _ => [1]
  | .un _ e => e.szs ++ [e.sz + 1]
  | .bin _ e f => e.szs ++ f.szs ++ [e.sz + f.sz + 1]
def Ex.dps : Ex → List Nat
  | .leaf _ => [1]
  | .un _ e => e.dps ++ [e.dp + 1]
  | .bin _ e f => e.dps ++ f.dps ++ [max e.dp f.dp + 1]
structure Hd.ok (x : Hd) : Prop where
  k1 : 1 ≤ x.kind
  k2 : x.kind ≤ 19
  n0 : 0 ≤ x.n
  n1 : x.n = 0 ∨ x.kind = 1
  p0 : 0 ≤ x.pos
  p1 : x.pos ≤ 400
def Ex.wf : Ex → Prop
  | .leaf x => x.ok ∧ x.kind ≤ 4
  | .un x e => x.ok ∧ 4 < x.kind ∧ x.kind ≤ 6 ∧ e.wf
  | .bin x e f => x.ok ∧ 6 < x.kind ∧ e.wf ∧ f.wf
def flF (o : Nat) : List Ex → List Node
  | [] => []
  | e :: F => e.fl o ++ flF (o + e.sz) F
def szF (F : List Ex) : Nat := (F.map Ex.sz).sum
theorem Ex.sz_pos : ∀ e : Ex, 0 < e.sz
  | .leaf _ => by simp [Ex.sz]
  | .un _ e => by simp [Ex.sz]
  | .bin _ e f => by simp [Ex.sz]
theorem Ex.dp_pos : ∀ e : Ex, 0 < e.dp
  | .leaf _ => by simp [Ex.dp]
  | .un _ e => by simp [Ex.dp]
  | .bin _ e f => by simp [Ex.dp]
theorem Ex.dp_le : ∀ e : Ex, e.dp ≤ e.sz
  | .leaf _ => by simp [Ex.dp, Ex.sz]
  | .un _ e => by simp only [Ex.dp, Ex.sz]; have := e.dp_le; omega
  | .bin _ e f => by simp only [Ex.dp, Ex.sz]; have := e.dp_le; have := f.dp_le; omega
theorem Ex.fl_length : ∀ (e : Ex) (o : Nat), (e.fl o).length = e.sz
  | .leaf _, o => by simp [Ex.fl, Ex.sz]
  | .un _ e, o => by simp [Ex.fl, Ex.sz, e.fl_length]
  | .bin _ e f, o => by simp [Ex.fl, Ex.sz, e.fl_length, f.fl_length]; omega
theorem Ex.szs_length : ∀ (e : Ex), e.szs.length = e.sz
  | .leaf _ => by simp [Ex.szs, Ex.sz]
  | .un _ e => by simp [Ex.szs, Ex.sz, e.szs_length]
  | .bin _ e f => by simp [Ex.szs, Ex.sz, e.szs_length, f.szs_length]; omega
theorem Ex.dps_length : ∀ (e : Ex), e.dps.length = e.sz
  | .leaf _ => by simp [Ex.dps, Ex.sz]
  | .un _ e => by simp [Ex.dps, Ex.sz, e.dps_length]
  | .bin _ e f => by simp [Ex.dps, Ex.sz, e.dps_length, f.dps_length]; omega
theorem Ex.szs_last (e : Ex) : ∃ l, e.szs = l ++ [e.sz] := by
  cases e with
  | leaf x => exact ⟨[], rfl⟩
  | un x e => exact ⟨_, rfl⟩
  | bin x e f => exact ⟨_, rfl⟩
theorem Ex.dps_last (e : Ex) : ∃ l, e.dps = l ++ [e.dp] := by
  cases e with
  | leaf x => exact ⟨[], rfl⟩
  | un x e => exact ⟨_, rfl⟩
  | bin x e f => exact ⟨_, rfl⟩
theorem getD_app_last {α : Type} (l m : List α) (x d : α) (i : Nat) (h : i + 1 = (l ++ [x]).length) : ((l ++ [x]) ++ m).getD i d = x := by
  rw [List.getD_eq_getElem?_getD, List.getElem?_append_left (by omega), List.getElem?_append_right (by simp at h; omega)]
  simp at h; subst h; simp
theorem szs_at (s m : List Nat) (e : Ex) (i : Nat) (h : i + 1 = s.length + e.sz) : ((s ++ e.szs) ++ m).getD i 0 = e.sz := by
  obtain ⟨l, hl⟩ := e.szs_last
  have h2 := e.szs_length
  rw [hl] at h2
  rw [hl, ← List.append_assoc]
  exact getD_app_last _ _ _ _ _ (by simp at h2 ⊢; omega)
theorem dps_at (s m : List Nat) (e : Ex) (i : Nat) (h : i + 1 = s.length + e.sz) : ((s ++ e.dps) ++ m).getD i 0 = e.dp := by
  obtain ⟨l, hl⟩ := e.dps_last
  have h2 := e.dps_length
  rw [hl] at h2
  rw [hl, ← List.append_assoc]
  exact getD_app_last _ _ _ _ _ (by simp at h2 ⊢; omega)
theorem rightB_iff (x : Node) (a b : Int) : rightB x a b = true ↔ x.hd.ok ∧ x.a = a ∧ x.b = b := by
  unfold rightB Node.hd
  simp only [Bool.and_eq_true, Bool.or_eq_true, decide_eq_true_eq, beq_iff_eq]
  constructor
  · rintro ⟨⟨⟨⟨⟨⟨⟨h1, h2⟩, h3⟩, h4⟩, h5⟩, h6⟩, h7⟩, h8⟩; exact ⟨⟨h1, h2, h3, h4, h5, h6⟩, h7, h8⟩
  · rintro ⟨⟨h1, h2, h3, h4, h5, h6⟩, h7, h8⟩; exact ⟨⟨⟨⟨⟨⟨⟨h1, h2⟩, h3⟩, h4⟩, h5⟩, h6⟩, h7⟩, h8⟩
theorem fold_fl : ∀ (e : Ex) (s d : List Nat), e.wf → d.length = s.length → (e.fl s.length).foldlM stepN (s, d) = some (s ++ e.szs, d ++ e.dps)
  | .leaf x, s, d, h, hl => by
    have hr : rightB (x.node 0 0) 0 0 = true := (rightB_iff _ _ _).2 ⟨h.1, rfl, rfl⟩
    have hk : (x.node 0 0).kind ≤ 4 := h.2
    simp [Ex.fl, Ex.szs, Ex.dps, stepN, hk, hr]
  | .un x e, s, d, h, hl => by
    have hp := e.sz_pos
    have hr : rightB (x.node ((s.length + e.sz - 1 : Nat) : Int) 0) ((s.length + e.sz - 1 : Nat) : Int) 0 = true := (rightB_iff _ _ _).2 ⟨h.1, rfl, rfl⟩
    have hk : ¬ x.kind ≤ 4 := by have := h.2.1; omega
    have hs := szs_at s [] e (s.length + e.sz - 1) (by omega)
    have hd := dps_at d [] e (s.length + e.sz - 1) (by omega)
    rw [List.append_nil] at hs hd
    simp only [Ex.fl, List.foldlM_append, fold_fl e s d h.2.2.2 hl, Option.bind_eq_bind, Option.bind_some, List.foldlM_cons, List.foldlM_nil, stepN, List.length_append, e.szs_length]
    rw [if_neg (show ¬ (x.node _ 0).kind ≤ 4 from hk), if_neg (by omega), if_pos (show (x.node _ 0).kind ≤ 6 from h.2.2.1), hr, hs, hd]
    simp [Ex.szs, Ex.dps, Nat.add_comm]
  | .bin x e f, s, d, h, hl => by
    have hp := e.sz_pos
    have hq := f.sz_pos
    have hr : rightB (x.node ((s.length + e.sz - 1 : Nat) : Int) ((s.length + e.sz + f.sz - 1 : Nat) : Int)) ((s.length + e.sz - 1 : Nat) : Int) ((s.length + e.sz + f.sz - 1 : Nat) : Int) = true := (rightB_iff _ _ _).2 ⟨h.1, rfl, rfl⟩
    have hk : ¬ x.kind ≤ 6 := by have := h.2.1; omega
    have hs := szs_at (s ++ e.szs) [] f (s.length + e.sz + f.sz - 1) (by simp [e.szs_length]; omega)
    have hd := dps_at (d ++ e.dps) [] f (s.length + e.sz + f.sz - 1) (by simp [e.dps_length]; omega)
    have hs2 := szs_at s f.szs e (s.length + e.sz - 1) (by omega)
    have hd2 := dps_at d f.dps e (s.length + e.sz - 1) (by omega)
    rw [List.append_nil] at hs hd
    have h2 := fold_fl f (s ++ e.szs) (d ++ e.dps) h.2.2.2 (by simp [hl, e.szs_length, e.dps_length])
    rw [List.length_append, e.szs_length] at h2
    simp only [Ex.fl, List.foldlM_append, fold_fl e s d h.2.2.1 hl, h2, Option.bind_eq_bind, Option.bind_some, List.foldlM_cons, List.foldlM_nil, stepN, List.length_append, e.szs_length, f.szs_length]
    rw [if_neg (show ¬ (x.node _ _).kind ≤ 4 by show ¬ x.kind ≤ 4; omega), if_neg (by omega), if_neg (show ¬ (x.node _ _).kind ≤ 6 from hk), hs, hd, if_neg (by omega)]
    rw [show s.length + e.sz + f.sz - 1 - f.sz = s.length + e.sz - 1 by omega, hs2, hd2, hr]
    simp [Ex.szs, Ex.dps]
    omega
theorem fold_flF : ∀ (F : List Ex) (s d : List Nat), (∀ e ∈ F, e.wf) → d.length = s.length → (flF s.length F).foldlM stepN (s, d) = some (s ++ F.flatMap Ex.szs, d ++ F.flatMap Ex.dps)
  | [], s, d, h, hl => by simp [flF]
  | e :: F, s, d, h, hl => by
    have h2 := fold_flF F (s ++ e.szs) (d ++ e.dps) (fun f hf => h f (by simp [hf])) (by simp [hl, e.szs_length, e.dps_length])
    rw [List.length_append, e.szs_length] at h2
    simp [flF, List.foldlM_append, fold_fl e s d (h e (by simp)) hl, h2]
theorem flF_length : ∀ (F : List Ex) (o : Nat), (flF o F).length = szF F
  | [], o => by simp [flF, szF]
  | e :: F, o => by
    have := flF_length F (o + e.sz)
    simp only [flF, List.length_append, this, e.fl_length, szF, List.map_cons, List.sum_cons]
theorem szs_lenF : ∀ (F : List Ex), (F.flatMap Ex.szs).length = szF F
  | [] => rfl
  | e :: F => by
    have := szs_lenF F
    simp only [List.flatMap_cons, List.length_append, this, e.szs_length, szF, List.map_cons, List.sum_cons]
theorem dps_lenF : ∀ (F : List Ex), (F.flatMap Ex.dps).length = szF F
  | [] => rfl
  | e :: F => by
    have := dps_lenF F
    simp only [List.flatMap_cons, List.length_append, this, e.dps_length, szF, List.map_cons, List.sum_cons]
theorem szF_app (F G : List Ex) : szF (F ++ G) = szF F + szF G := by simp [szF]
theorem flF_app : ∀ (F G : List Ex) (o : Nat), flF o (F ++ G) = flF o F ++ flF (o + szF F) G
  | [], G, o => by simp [flF, szF]
  | e :: F, G, o => by
    have := flF_app F G (o + e.sz)
    simp only [List.cons_append, flF, this, List.append_assoc, szF, List.map_cons, List.sum_cons, Nat.add_assoc]
theorem snoc_cases {α : Type} (F : List α) : F = [] ∨ ∃ G e, F = G ++ [e] := by
  rcases List.eq_nil_or_concat F with h | ⟨G, e, h⟩
  · exact .inl h
  · exact .inr ⟨G, e, by simpa using h⟩
theorem forest_step {F : List Ex} {x : Node} {sd : List Nat × List Nat} (hw : ∀ e ∈ F, e.wf) (h : stepN (F.flatMap Ex.szs, F.flatMap Ex.dps) x = some sd) :
    ∃ G : List Ex, flF 0 F ++ [x] = flF 0 G ∧ (∀ e ∈ G, e.wf) ∧ sd = (G.flatMap Ex.szs, G.flatMap Ex.dps) := by
  unfold stepN at h
  simp only [szs_lenF] at h
  split at h
  · rename_i hk
    split at h
    · rename_i hr
      obtain ⟨h1, h2, h3⟩ := (rightB_iff _ _ _).1 hr
      cases h
      refine ⟨F ++ [.leaf x.hd], ?_, fun e he => ?_, by simp [Ex.szs, Ex.dps]⟩
      · simp only [flF_app, flF, Ex.fl, List.append_nil]
        congr 2
        cases x; simp [Hd.node, Node.hd] at h2 h3 ⊢; exact ⟨h2, h3⟩
      · rcases List.mem_append.1 he with he | he
        · exact hw e he
        · simp at he; subst he; exact ⟨h1, hk⟩
    · cases h
  · rename_i hk
    split at h
    · cases h
    · rename_i hi
      rcases snoc_cases F with rfl | ⟨F1, f, rfl⟩
      · simp [szF] at hi
      have hq := f.sz_pos
      have hsz : szF (F1 ++ [f]) = szF F1 + f.sz := by simp [szF]
      have e1 : ((F1 ++ [f]).flatMap Ex.szs).getD (szF (F1 ++ [f]) - 1) 0 = f.sz := by
        have := szs_at (F1.flatMap Ex.szs) [] f (szF (F1 ++ [f]) - 1) (by rw [szs_lenF]; omega)
        simpa using this
      have e2 : ((F1 ++ [f]).flatMap Ex.dps).getD (szF (F1 ++ [f]) - 1) 0 = f.dp := by
        have := dps_at (F1.flatMap Ex.dps) [] f (szF (F1 ++ [f]) - 1) (by rw [dps_lenF]; omega)
        simpa using this
      rw [e1, e2] at h
      split at h
      · rename_i hk6
        split at h
        · rename_i hr
          obtain ⟨h1, h2, h3⟩ := (rightB_iff _ _ _).1 hr
          cases h
          refine ⟨F1 ++ [.un x.hd f], ?_, fun e he => ?_, by simp [Ex.szs, Ex.dps, Nat.add_comm]⟩
          · simp only [flF_app, flF, Ex.fl, List.append_nil, List.append_assoc, Nat.zero_add]
            congr 3
            rw [hsz] at h2
            cases x; simp only [Hd.node, Node.hd] at h2 h3 ⊢; rw [h2, h3]
          · rcases List.mem_append.1 he with he | he
            · exact hw e (by simp [he])
            · simp at he; subst he; exact ⟨h1, by show 4 < x.kind; omega, hk6, hw f (by simp)⟩
        · cases h
      · rename_i hk6
        split at h
        · cases h
        · rename_i hlt
          rcases snoc_cases F1 with rfl | ⟨F2, g, rfl⟩
          · simp [szF] at hlt; omega
          have hp := g.sz_pos
          have hsz1 : szF (F2 ++ [g]) = szF F2 + g.sz := by simp [szF]
          have hj : szF (F2 ++ [g] ++ [f]) - 1 - f.sz = szF F2 + g.sz - 1 := by omega
          have e3 : ((F2 ++ [g] ++ [f]).flatMap Ex.szs).getD (szF F2 + g.sz - 1) 0 = g.sz := by
            have := szs_at (F2.flatMap Ex.szs) f.szs g (szF F2 + g.sz - 1) (by rw [szs_lenF]; omega)
            simpa using this
          have e4 : ((F2 ++ [g] ++ [f]).flatMap Ex.dps).getD (szF F2 + g.sz - 1) 0 = g.dp := by
            have := dps_at (F2.flatMap Ex.dps) f.dps g (szF F2 + g.sz - 1) (by rw [dps_lenF]; omega)
            simpa using this
          rw [hj, e3, e4] at h
          split at h
          · rename_i hr
            obtain ⟨h1, h2, h3⟩ := (rightB_iff _ _ _).1 hr
            cases h
            refine ⟨F2 ++ [.bin x.hd g f], ?_, fun e he => ?_, ?_⟩
            · simp only [flF_app, flF, Ex.fl, List.append_nil, List.append_assoc, Nat.zero_add, szF_app]
              simp only [szF, List.map_cons, List.map_nil, List.sum_cons, List.sum_nil, Nat.add_zero]
              congr 4
              rw [hsz, hsz1] at h3
              cases x; simp only [Hd.node, Node.hd, szF] at h2 h3 ⊢; rw [h2, h3]
            · rcases List.mem_append.1 he with he | he
              · exact hw e (by simp [he])
              · simp at he; subst he; exact ⟨h1, by show 6 < x.kind; omega, hw g (by simp), hw f (by simp)⟩
            · simp [Ex.szs, Ex.dps]; omega
          · cases h
theorem forest_of : ∀ (l : List Node) (F : List Ex) (sd : List Nat × List Nat), (∀ e ∈ F, e.wf) → l.foldlM stepN (F.flatMap Ex.szs, F.flatMap Ex.dps) = some sd →
    ∃ G : List Ex, flF 0 F ++ l = flF 0 G ∧ (∀ e ∈ G, e.wf) ∧ sd = (G.flatMap Ex.szs, G.flatMap Ex.dps)
  | [], F, sd, hw, h => by simp at h; exact ⟨F, by simp, hw, h.symm⟩
  | x :: l, F, sd, hw, h => by
    rw [List.foldlM_cons] at h
    cases hx : stepN (F.flatMap Ex.szs, F.flatMap Ex.dps) x with
    | none => simp [hx] at h
    | some sd1 =>
      obtain ⟨G, e1, e2, rfl⟩ := forest_step hw hx
      rw [hx] at h
      obtain ⟨H, f1, f2, f3⟩ := forest_of l G sd e2 h
      exact ⟨H, by rw [← f1, ← e1]; simp, f2, f3⟩
theorem sizesF_forest {l : List Node} {sd : List Nat × List Nat} (h : sizesF l = some sd) : ∃ G : List Ex, l = flF 0 G ∧ (∀ e ∈ G, e.wf) ∧ sd = (G.flatMap Ex.szs, G.flatMap Ex.dps) := by
  have := forest_of l [] sd (by simp) h
  simpa [flF] using this
theorem sizesF_flF {F : List Ex} (h : ∀ e ∈ F, e.wf) : sizesF (flF 0 F) = some (F.flatMap Ex.szs, F.flatMap Ex.dps) := by
  have := fold_flF F [] [] h rfl
  simpa [sizesF] using this
/-! ### what Sizes keeps -/
theorem sizesF_next {l : List Node} {k : Nat} {sd : List Nat × List Nat} (h : sizesF (l.take k) = some sd) (hk : k < l.length) : sizesF (l.take (k + 1)) = stepN sd (l.getD k default) := by
  unfold sizesF at h ⊢
  rw [List.take_add_one, List.foldlM_append, h, List.getElem?_eq_getElem hk]
  simp [List.getD_eq_getElem?_getD, hk]
theorem sizesF_stop {l : List Node} {k : Nat} {sd : List Nat × List Nat} (h : sizesF (l.take k) = some sd) (hk : k < l.length) (h2 : stepN sd (l.getD k default) = none) : sizesF l = none := by
  have h3 := sizesF_next h hk
  rw [h2] at h3
  unfold sizesF at h3 ⊢
  rw [← List.take_append_drop (k + 1) l, List.foldlM_append, h3]; rfl
theorem Ex.szs_bd : ∀ (e : Ex) (j : Nat), j < e.sz → 1 ≤ e.szs.getD j 0 ∧ e.szs.getD j 0 ≤ j + 1
  | .leaf _, j, h => by simp [Ex.sz] at h; subst h; simp [Ex.szs]
  | .un _ e, j, h => by
    simp only [Ex.sz] at h
    simp only [Ex.szs, List.getD_eq_getElem?_getD]
    by_cases hj : j < e.sz
    · rw [List.getElem?_append_left (by rw [e.szs_length]; exact hj), ← List.getD_eq_getElem?_getD]; exact e.szs_bd j hj
    · have : j = e.sz := by omega
      subst this
      rw [List.getElem?_append_right (by rw [e.szs_length]; exact Nat.le_refl _), e.szs_length]; simp
  | .bin _ e f, j, h => by
    simp only [Ex.sz] at h
    simp only [Ex.szs, List.getD_eq_getElem?_getD]
    by_cases hj : j < e.sz
    · rw [List.append_assoc, List.getElem?_append_left (by rw [e.szs_length]; exact hj), ← List.getD_eq_getElem?_getD]; exact e.szs_bd j hj
    · by_cases hj2 : j < e.sz + f.sz
      · rw [List.getElem?_append_left (by simp [e.szs_length, f.szs_length]; exact hj2), List.getElem?_append_right (by rw [e.szs_length]; omega), e.szs_length, ← List.getD_eq_getElem?_getD]
        have := f.szs_bd (j - e.sz) (by omega)
        omega
      · have : j = e.sz + f.sz := by omega
        subst this
        rw [List.getElem?_append_right (by simp [e.szs_length, f.szs_length])]; simp [e.szs_length, f.szs_length]
theorem Ex.dps_bd : ∀ (e : Ex) (j : Nat), j < e.sz → 1 ≤ e.dps.getD j 0 ∧ e.dps.getD j 0 ≤ j + 1
  | .leaf _, j, h => by simp [Ex.sz] at h; subst h; simp [Ex.dps]
  | .un _ e, j, h => by
    simp only [Ex.sz] at h
    simp only [Ex.dps, List.getD_eq_getElem?_getD]
    by_cases hj : j < e.sz
    · rw [List.getElem?_append_left (by rw [e.dps_length]; exact hj), ← List.getD_eq_getElem?_getD]; exact e.dps_bd j hj
    · have : j = e.sz := by omega
      subst this
      have := e.dp_le
      rw [List.getElem?_append_right (by rw [e.dps_length]; exact Nat.le_refl _), e.dps_length]; simp; omega
  | .bin _ e f, j, h => by
    simp only [Ex.sz] at h
    simp only [Ex.dps, List.getD_eq_getElem?_getD]
    by_cases hj : j < e.sz
    · rw [List.append_assoc, List.getElem?_append_left (by rw [e.dps_length]; exact hj), ← List.getD_eq_getElem?_getD]; exact e.dps_bd j hj
    · by_cases hj2 : j < e.sz + f.sz
      · rw [List.getElem?_append_left (by simp [e.dps_length, f.dps_length]; exact hj2), List.getElem?_append_right (by rw [e.dps_length]; omega), e.dps_length, ← List.getD_eq_getElem?_getD]
        have := f.dps_bd (j - e.sz) (by omega)
        omega
      · have : j = e.sz + f.sz := by omega
        subst this
        have := e.dp_le
        have := f.dp_le
        rw [List.getElem?_append_right (by simp [e.dps_length, f.dps_length])]; simp [e.dps_length, f.dps_length]; omega
theorem flat_bd (g : Ex → List Nat) (hg : ∀ e : Ex, (g e).length = e.sz) (hb : ∀ (e : Ex) (j : Nat), j < e.sz → 1 ≤ (g e).getD j 0 ∧ (g e).getD j 0 ≤ j + 1) :
    ∀ (F : List Ex) (j : Nat), j < szF F → 1 ≤ (F.flatMap g).getD j 0 ∧ (F.flatMap g).getD j 0 ≤ j + 1
  | [], j, h => by simp [szF] at h
  | e :: F, j, h => by
    simp only [szF, List.map_cons, List.sum_cons] at h
    simp only [List.flatMap_cons, List.getD_eq_getElem?_getD]
    by_cases hj : j < e.sz
    · rw [List.getElem?_append_left (by rw [hg]; exact hj), ← List.getD_eq_getElem?_getD]; exact hb e j hj
    · rw [List.getElem?_append_right (by rw [hg]; omega), hg, ← List.getD_eq_getElem?_getD]
      have := flat_bd g hg hb F (j - e.sz) (by unfold szF; omega)
      omega
theorem sizesF_bounds {l : List Node} {s d : List Nat} (h : sizesF l = some (s, d)) : s.length = l.length ∧ d.length = l.length ∧ (∀ j, j < l.length → 1 ≤ s.getD j default ∧ s.getD j default ≤ j + 1) ∧ (∀ j, j < l.length → 1 ≤ d.getD j default ∧ d.getD j default ≤ j + 1) := by
  obtain ⟨G, rfl, hw, e⟩ := sizesF_forest h
  cases e
  rw [flF_length, szs_lenF, dps_lenF]
  exact ⟨rfl, rfl, flat_bd Ex.szs Ex.szs_length Ex.szs_bd G, flat_bd Ex.dps Ex.dps_length Ex.dps_bd G⟩
end Go.Proofs.YtjeehkdepoiegaaGreat
namespace Go.Proofs.YtjeehkdepoiegaaGreat
open Go.AL
set_option linter.unusedSimpArgs false
set_option linter.unusedVariables false
structure Top where
  pos : Nat
  size : Nat
  depth : Nat
  deriving DecidableEq, Inhabited
def Top.cells (t : Top) : List AV := [.lit (.int .i64 (t.pos : Int)), .lit (.int .i64 (t.size : Int)), .lit (.int .i64 (t.depth : Int))]
def topsV (l : List Top) : AV := .ro 3 (l.map Top.cells)
def partsN (k : Int) : Int := if 1 ≤ k ∧ k ≤ 4 then 0 else if k = 5 ∨ k = 6 then 1 else if 7 ≤ k ∧ k ≤ 19 then 2 else 0
def partsE (k : Int) : Int := if 1 ≤ k ∧ k ≤ 19 then 0 else 2
def ownN (x : Node) (a b : Int) : Node := ⟨x.kind, if x.kind = 1 then max x.n 0 else 0, a, b, min (max x.pos 0) 400⟩
def topStep (sa : List Top × List Top) (x : Node) : Option (List Top × List Top) :=
  let m := sa.1.length
  if x.kind < 1 ∨ 19 < x.kind then none
  else if x.kind ≤ 4 then
    (if ownN x 0 0 = x then some (sa.1 ++ [⟨sa.2.length, 1, 1⟩], sa.2 ++ [⟨sa.2.length, 1, 1⟩]) else none)
  else if x.kind ≤ 6 then
    (if m < 1 then none
    else
      let p := sa.1.getD (m - 1) default
      if ownN x p.pos 0 = x then some (sa.1.take (m - 1) ++ [⟨sa.2.length, 1 + p.size, max 1 (p.depth + 1)⟩], sa.2 ++ [⟨sa.2.length, 1 + p.size, max 1 (p.depth + 1)⟩]) else none)
  else
    (if m < 2 then none
    else
      let p := sa.1.getD (m - 2) default
      let q := sa.1.getD (m - 1) default
      if ownN x p.pos q.pos = x then some (sa.1.take (m - 2) ++ [⟨sa.2.length, 1 + p.size + q.size, max (max 1 (p.depth + 1)) (q.depth + 1)⟩], sa.2 ++ [⟨sa.2.length, 1 + p.size + q.size, max (max 1 (p.depth + 1)) (q.depth + 1)⟩]) else none)
def topsF (l : List Node) : Option (List Top × List Top) := l.foldlM topStep ([], [])
theorem topsF_next {l : List Node} {k : Nat} {sd : List Top × List Top} (h : topsF (l.take k) = some sd) (hk : k < l.length) : topsF (l.take (k + 1)) = topStep sd (l.getD k default) := by
  unfold topsF at *
  rw [List.take_succ_eq_append_getElem hk, List.foldlM_append, h]
  simp [List.getD_eq_getElem?_getD, List.getElem?_eq_getElem hk]
theorem topsF_stop {l : List Node} {k : Nat} {sd : List Top × List Top} (h : topsF (l.take k) = some sd) (hk : k < l.length) (h2 : topStep sd (l.getD k default) = none) : topsF l = none := by
  have h3 := topsF_next h hk
  rw [h2] at h3
  unfold topsF at *
  rw [← List.take_append_drop (k + 1) l, List.foldlM_append, h3]
  rfl
structure TopsB (k : Nat) (s a : List Top) : Prop where
  al : a.length = k
  sl : s.length ≤ k
  ss : (s.map Top.size).sum ≤ k
  sb : ∀ t ∈ s, t.pos < k ∧ t.depth ≤ k
theorem sum_split (s : List Top) (i : Nat) (hi : i < s.length) : (s.map Top.size).sum = ((s.take i).map Top.size).sum + (s.getD i default).size + ((s.drop (i + 1)).map Top.size).sum := by
  have e : s.getD i default = s[i] := by rw [List.getD_eq_getElem?_getD, List.getElem?_eq_getElem hi]; rfl
  have h : s = s.take i ++ s[i] :: s.drop (i + 1) := by rw [← List.drop_eq_getElem_cons hi, List.take_append_drop]
  have h2 := congrArg (fun l => (l.map Top.size).sum) h
  simp only [List.map_append, List.map_cons, List.sum_append, List.sum_cons] at h2
  rw [e]; omega
theorem TopsB.get {k : Nat} {s a : List Top} (h : TopsB k s a) (i : Nat) (hi : i < s.length) : (s.getD i default).pos < k ∧ (s.getD i default).depth ≤ k ∧ (s.getD i default).size ≤ k := by
  have e : s.getD i default = s[i] := by rw [List.getD_eq_getElem?_getD, List.getElem?_eq_getElem hi]; rfl
  obtain ⟨h1, h2⟩ := h.sb s[i] (List.getElem_mem hi)
  have h3 := sum_split s i hi
  have h4 := h.ss
  rw [e] at h3 ⊢
  exact ⟨h1, h2, by omega⟩
theorem TopsB.step {k : Nat} {s a s' a' : List Top} {x : Node} (h : TopsB k s a) (hs : topStep (s, a) x = some (s', a')) : TopsB (k + 1) s' a' := by
  have mk : ∀ (m : Nat) (t : Top), t.pos = a.length → t.depth ≤ k + 1 → m ≤ s.length → ((s.take m).map Top.size).sum + t.size ≤ k + 1 → TopsB (k + 1) (s.take m ++ [t]) (a ++ [t]) := by
    intro m t h1 h2 h3 h4
    refine ⟨by simp [h.al], by simp; have := h.sl; omega, by simpa using h4, fun u hu => ?_⟩
    rcases List.mem_append.1 hu with hu | hu
    · have := h.sb u (List.mem_of_mem_take hu); omega
    · simp at hu; subst hu; rw [h1, h.al]; omega
  have hss := h.ss
  unfold topStep at hs
  simp only at hs
  split at hs
  · cases hs
  split at hs
  · split at hs
    · cases hs
      have := mk s.length ⟨a.length, 1, 1⟩ rfl (by simp) (Nat.le_refl _) (by rw [List.take_length]; simp; omega)
      rwa [List.take_length] at this
    · cases hs
  split at hs
  · split at hs
    · cases hs
    split at hs
    · cases hs
      obtain ⟨_, h2, _⟩ := h.get (s.length - 1) (by omega)
      have := sum_split s (s.length - 1) (by omega)
      exact mk _ _ rfl (by simp only; omega) (by omega) (by simp only; omega)
    · cases hs
  · split at hs
    · cases hs
    split at hs
    · cases hs
      obtain ⟨_, h2, _⟩ := h.get (s.length - 1) (by omega)
      obtain ⟨_, h3, _⟩ := h.get (s.length - 2) (by omega)
      have h4 := sum_split s (s.length - 2) (by omega)
      have h5 : s.length - 2 + 1 = s.length - 1 := by omega
      rw [h5, List.drop_eq_getElem_cons (by omega : s.length - 1 < s.length)] at h4
      have e : s.getD (s.length - 1) default = s[s.length - 1]'(by omega) := by rw [List.getD_eq_getElem?_getD, List.getElem?_eq_getElem (by omega)]; rfl
      rw [List.map_cons, List.sum_cons, ← e] at h4
      exact mk _ _ rfl (by simp only; omega) (by omega) (by simp only; omega)
    · cases hs
theorem own_eq (kd nn xa xb xp a b : Int) : ownN ⟨kd, nn, xa, xb, xp⟩ a b = ⟨kd, nn, xa, xb, xp⟩ ↔
    (if kd = 1 then (if 0 > nn then 0 else nn) = nn else 0 = nn) ∧ a = xa ∧ b = xb ∧ (if 400 < (if 0 > xp then 0 else xp) then 400 else if 0 > xp then 0 else xp) = xp := by
  have e : min (max xp 0) 400 = if 400 < (if 0 > xp then 0 else xp) then 400 else if 0 > xp then 0 else xp := by
    rw [Int.max_def, Int.min_def]; repeat' split
    all_goals omega
  have e2 : max nn 0 = if 0 > nn then 0 else nn := by
    rw [Int.max_def]; repeat' split
    all_goals omega
  unfold ownN
  simp only [Node.mk.injEq, true_and, e, e2]
  by_cases hk : kd = 1
  · simp only [if_pos hk]
  · simp only [if_neg hk]
theorem max_cast (x y : Nat) : ((max x y : Nat) : Int) = if (y : Int) > (x : Int) then (y : Int) else (x : Int) := by
  rw [Nat.max_def]; split <;> split <;> omega
end Go.Proofs.YtjeehkdepoiegaaGreat
namespace Go.Proofs.YtjeehkdepoiegaaGreat
open Go.AL
set_option linter.unusedSimpArgs false
set_option linter.unusedVariables false
def Ex.root (o : Nat) (e : Ex) : Top := ⟨o + e.sz - 1, e.sz, e.dp⟩
def rootsF (o : Nat) : List Ex → List Top
  | [] => []
  | e :: F => e.root o :: rootsF (o + e.sz) F
def Ex.tops (o : Nat) : Ex → List Top
  | .leaf _ => [⟨o, 1, 1⟩]
  | .un _ e => e.tops o ++ [⟨o + e.sz, e.sz + 1, e.dp + 1⟩]
  | .bin _ e f => e.tops o ++ f.tops (o + e.sz) ++ [⟨o + e.sz + f.sz, e.sz + f.sz + 1, max e.dp f.dp + 1⟩]
def allF (o : Nat) : List Ex → List Top
  | [] => []
  | e :: F => e.tops o ++ allF (o + e.sz) F
theorem Ex.tops_length : ∀ (e : Ex) (o : Nat), (e.tops o).length = e.sz
  | .leaf _, o => by simp [Ex.tops, Ex.sz]
  | .un _ e, o => by simp [Ex.tops, Ex.sz, e.tops_length]
  | .bin _ e f, o => by simp [Ex.tops, Ex.sz, e.tops_length, f.tops_length]; omega
theorem own_iff (x : Node) (a b : Int) (h1 : 1 ≤ x.kind) (h2 : x.kind ≤ 19) : ownN x a b = x ↔ x.hd.ok ∧ x.a = a ∧ x.b = b := by
  obtain ⟨kd, nn, xa, xb, xp⟩ := x
  rw [own_eq]
  simp only at h1 h2
  constructor
  · rintro ⟨e1, e2, e3, e4⟩
    have p0 : 0 ≤ xp ∧ xp ≤ 400 := by
      repeat' split at e4
      all_goals omega
    have n0 : 0 ≤ nn ∧ (nn = 0 ∨ kd = 1) := by
      repeat' split at e1
      all_goals omega
    exact ⟨⟨h1, h2, n0.1, n0.2, p0.1, p0.2⟩, e2.symm, e3.symm⟩
  · rintro ⟨⟨_, _, n0, n1, p0, p1⟩, e2, e3⟩
    simp only [Node.hd] at n0 n1 p0 p1
    refine ⟨?_, e2.symm, e3.symm, ?_⟩
    · repeat' split
      all_goals omega
    · repeat' split
      all_goals omega
theorem tfold_fl : ∀ (e : Ex) (s a : List Top), e.wf → (e.fl a.length).foldlM topStep (s, a) = some (s ++ [e.root a.length], a ++ e.tops a.length)
  | .leaf x, s, a, h => by
    have hr : ownN (x.node 0 0) 0 0 = x.node 0 0 := (own_iff _ _ _ h.1.k1 h.1.k2).2 ⟨h.1, rfl, rfl⟩
    have hk : (x.node 0 0).kind ≤ 4 := h.2
    have hb : ¬ ((x.node 0 0).kind < 1 ∨ 19 < (x.node 0 0).kind) := by have := h.1.k1; have := h.1.k2; show ¬ (x.kind < 1 ∨ 19 < x.kind); omega
    simp only [Ex.fl, List.foldlM_cons, List.foldlM_nil, topStep]
    rw [if_neg hb, if_pos hk, if_pos hr]
    simp [Ex.root, Ex.tops, Ex.sz, Ex.dp]
  | .un x e, s, a, h => by
    have hp := e.sz_pos
    have hd := e.dp_pos
    have hr : ownN (x.node ((a.length + e.sz - 1 : Nat) : Int) 0) ((a.length + e.sz - 1 : Nat) : Int) 0 = x.node ((a.length + e.sz - 1 : Nat) : Int) 0 := (own_iff _ _ _ h.1.k1 h.1.k2).2 ⟨h.1, rfl, rfl⟩
    have hb : ¬ (x.kind < 1 ∨ 19 < x.kind) := by have := h.1.k1; have := h.1.k2; omega
    have hk : ¬ x.kind ≤ 4 := by have := h.2.1; omega
    have hg : (s ++ [e.root a.length]).getD ((s ++ [e.root a.length]).length - 1) default = e.root a.length := by simp [List.getD_eq_getElem?_getD]
    simp only [Ex.fl, List.foldlM_append, tfold_fl e s a h.2.2.2, Option.bind_eq_bind, Option.bind_some, List.foldlM_cons, List.foldlM_nil, topStep]
    rw [if_neg (show ¬ ((x.node _ 0).kind < 1 ∨ 19 < (x.node _ 0).kind) from hb), if_neg (show ¬ (x.node _ 0).kind ≤ 4 from hk), if_pos (show (x.node _ 0).kind ≤ 6 from h.2.2.1), if_neg (by simp), hg]
    rw [if_pos (show ownN (x.node _ 0) ((e.root a.length).pos : Int) 0 = _ from hr)]
    simp [Ex.root, Ex.tops, Ex.sz, Ex.dp, e.tops_length]
    omega
  | .bin x e f, s, a, h => by
    have hp := e.sz_pos
    have hq := f.sz_pos
    have hd := e.dp_pos
    have hd2 := f.dp_pos
    have hr : ownN (x.node ((a.length + e.sz - 1 : Nat) : Int) ((a.length + e.sz + f.sz - 1 : Nat) : Int)) ((a.length + e.sz - 1 : Nat) : Int) ((a.length + e.sz + f.sz - 1 : Nat) : Int) = x.node ((a.length + e.sz - 1 : Nat) : Int) ((a.length + e.sz + f.sz - 1 : Nat) : Int) :=
      (own_iff _ _ _ h.1.k1 h.1.k2).2 ⟨h.1, rfl, rfl⟩
    have hb : ¬ (x.kind < 1 ∨ 19 < x.kind) := by have := h.1.k1; have := h.1.k2; omega
    have hk : ¬ x.kind ≤ 6 := by have := h.2.1; omega
    have h2 := tfold_fl f (s ++ [e.root a.length]) (a ++ e.tops a.length) h.2.2.2
    rw [List.length_append, e.tops_length] at h2
    have hg : (s ++ [e.root a.length] ++ [f.root (a.length + e.sz)]).getD ((s ++ [e.root a.length] ++ [f.root (a.length + e.sz)]).length - 1) default = f.root (a.length + e.sz) := by simp [List.getD_eq_getElem?_getD]
    have hg2 : (s ++ [e.root a.length] ++ [f.root (a.length + e.sz)]).getD ((s ++ [e.root a.length] ++ [f.root (a.length + e.sz)]).length - 2) default = e.root a.length := by simp [List.getD_eq_getElem?_getD]
    simp only [Ex.fl, List.foldlM_append, tfold_fl e s a h.2.2.1, h2, Option.bind_eq_bind, Option.bind_some, List.foldlM_cons, List.foldlM_nil, topStep]
    rw [if_neg (show ¬ ((x.node _ _).kind < 1 ∨ 19 < (x.node _ _).kind) from hb), if_neg (show ¬ (x.node _ _).kind ≤ 4 by show ¬ x.kind ≤ 4; omega), if_neg (show ¬ (x.node _ _).kind ≤ 6 from hk), if_neg (by simp), hg, hg2]
    rw [if_pos (show ownN (x.node _ _) ((e.root a.length).pos : Int) ((f.root (a.length + e.sz)).pos : Int) = _ from hr)]
    simp [Ex.root, Ex.tops, Ex.sz, Ex.dp, e.tops_length, f.tops_length]
    omega
theorem tfold_flF : ∀ (F : List Ex) (s a : List Top), (∀ e ∈ F, e.wf) → (flF a.length F).foldlM topStep (s, a) = some (s ++ rootsF a.length F, a ++ allF a.length F)
  | [], s, a, h => by simp [flF, rootsF, allF]
  | e :: F, s, a, h => by
    have h2 := tfold_flF F (s ++ [e.root a.length]) (a ++ e.tops a.length) (fun f hf => h f (by simp [hf]))
    rw [List.length_append, e.tops_length] at h2
    simp [flF, List.foldlM_append, tfold_fl e s a (h e (by simp)), h2, rootsF, allF]
theorem topsF_flF {F : List Ex} (h : ∀ e ∈ F, e.wf) : topsF (flF 0 F) = some (rootsF 0 F, allF 0 F) := by
  have := tfold_flF F [] [] h
  simpa [topsF] using this
theorem rootsF_length : ∀ (F : List Ex) (o : Nat), (rootsF o F).length = F.length
  | [], o => rfl
  | e :: F, o => by simp [rootsF, rootsF_length F]
theorem rootsF_app : ∀ (F G : List Ex) (o : Nat), rootsF o (F ++ G) = rootsF o F ++ rootsF (o + szF F) G
  | [], G, o => by simp [rootsF, szF]
  | e :: F, G, o => by
    have := rootsF_app F G (o + e.sz)
    simp only [List.cons_append, rootsF, this, szF, List.map_cons, List.sum_cons, Nat.add_assoc]
theorem tforest_step {F : List Ex} {x : Node} {sa : List Top × List Top} (hw : ∀ e ∈ F, e.wf) (h : topStep (rootsF 0 F, allF 0 F) x = some sa) :
    ∃ G : List Ex, flF 0 F ++ [x] = flF 0 G ∧ (∀ e ∈ G, e.wf) := by
  unfold topStep at h
  simp only [rootsF_length] at h
  split at h
  · cases h
  rename_i hb
  split at h
  · rename_i hk
    split at h
    · rename_i hr
      obtain ⟨h1, h2, h3⟩ := (own_iff x _ _ (by omega) (by omega)).1 hr
      refine ⟨F ++ [.leaf x.hd], ?_, ?_⟩
      · rw [flF_app]
        simp only [flF, Ex.fl, List.append_nil]
        congr 2
        cases x; simp only [Hd.node, Node.hd] at h2 h3 ⊢; rw [h2, h3]
      · intro e he
        rcases List.mem_append.1 he with he | he
        · exact hw e he
        · simp at he; subst he; exact ⟨h1, hk⟩
    · cases h
  rename_i hk
  rcases snoc_cases F with rfl | ⟨F', e, rfl⟩
  · split at h
    · rw [if_pos (by simp)] at h; cases h
    · rw [if_pos (by simp)] at h; cases h
  have hroot : ∀ (G : List Ex) (f : Ex), rootsF 0 (G ++ [f]) = rootsF 0 G ++ [f.root (szF G)] := fun G f => by rw [rootsF_app]; simp [rootsF]
  have hew := hw e (by simp)
  split at h
  · rename_i hk6
    split at h
    · cases h
    split at h
    · rename_i hr
      have hg : (rootsF 0 (F' ++ [e])).getD ((F' ++ [e]).length - 1) default = e.root (szF F') := by
        rw [hroot]
        simp [List.getD_eq_getElem?_getD, rootsF_length]
      rw [hg] at hr
      obtain ⟨h1, h2, h3⟩ := (own_iff x _ _ (by omega) (by omega)).1 hr
      refine ⟨F' ++ [.un x.hd e], ?_, ?_⟩
      · rw [flF_app, flF_app]
        simp only [flF, Ex.fl, List.append_nil, List.append_assoc, Nat.zero_add]
        congr 3
        cases x; simp only [Hd.node, Node.hd, Ex.root] at h2 h3 ⊢; rw [h2, h3]
      · intro g hg
        rcases List.mem_append.1 hg with hg | hg
        · exact hw g (by simp [hg])
        · simp at hg; subst hg; exact ⟨h1, by show 4 < x.kind; omega, hk6, hew⟩
    · cases h
  · rename_i hk6
    rcases snoc_cases F' with rfl | ⟨F2, f, rfl⟩
    · rw [if_pos (by simp)] at h; cases h
    split at h
    · cases h
    split at h
    · rename_i hr
      have hg : (rootsF 0 (F2 ++ [f] ++ [e])).getD ((F2 ++ [f] ++ [e]).length - 1) default = e.root (szF (F2 ++ [f])) := by
        rw [hroot]
        simp [List.getD_eq_getElem?_getD, rootsF_length]
      have hg2 : (rootsF 0 (F2 ++ [f] ++ [e])).getD ((F2 ++ [f] ++ [e]).length - 2) default = f.root (szF F2) := by
        rw [hroot, hroot]
        simp [List.getD_eq_getElem?_getD, rootsF_length]
      rw [hg, hg2] at hr
      obtain ⟨h1, h2, h3⟩ := (own_iff x _ _ (by omega) (by omega)).1 hr
      refine ⟨F2 ++ [.bin x.hd f e], ?_, ?_⟩
      · rw [flF_app, flF_app, flF_app]
        simp only [flF, Ex.fl, List.append_nil, List.append_assoc, Nat.zero_add, szF_app]
        have e1 : szF [f] = f.sz := by simp [szF]
        rw [e1]
        congr 4
        cases x; simp only [Hd.node, Node.hd, Ex.root, szF_app, e1] at h2 h3 ⊢; rw [h2, h3]
      · intro g hg
        rcases List.mem_append.1 hg with hg | hg
        · exact hw g (by simp [hg])
        · simp at hg; subst hg; exact ⟨h1, by show 6 < x.kind; omega, hw f (by simp), hew⟩
    · cases h
theorem tforest_of : ∀ (l : List Node) (F : List Ex) (sa : List Top × List Top), (∀ e ∈ F, e.wf) → l.foldlM topStep (rootsF 0 F, allF 0 F) = some sa →
    ∃ G : List Ex, flF 0 F ++ l = flF 0 G ∧ (∀ e ∈ G, e.wf)
  | [], F, sa, hw, h => ⟨F, by simp, hw⟩
  | x :: l, F, sa, hw, h => by
    rw [List.foldlM_cons] at h
    cases hx : topStep (rootsF 0 F, allF 0 F) x with
    | none => simp [hx] at h
    | some sa1 =>
      obtain ⟨G, e1, e2⟩ := tforest_step hw hx
      have e3 : sa1 = (rootsF 0 G, allF 0 G) := by
        have h1 := topsF_flF e2
        have h2 := topsF_flF hw
        rw [← e1] at h1
        unfold topsF at h1 h2
        rw [List.foldlM_append, h2] at h1
        simp [hx] at h1
        exact h1
      subst e3
      rw [hx] at h
      obtain ⟨H, f1, f2⟩ := tforest_of l G sa e2 h
      exact ⟨H, by rw [← f1, ← e1]; simp, f2⟩
theorem topsF_some {l : List Node} {sa : List Top × List Top} (h : topsF l = some sa) : ∃ G : List Ex, l = flF 0 G ∧ (∀ e ∈ G, e.wf) ∧ sa = (rootsF 0 G, allF 0 G) := by
  obtain ⟨G, h1, h2⟩ := tforest_of l [] sa (by simp) h
  simp only [flF, List.nil_append] at h1
  refine ⟨G, h1, h2, ?_⟩
  rw [h1, topsF_flF h2] at h
  cases h; rfl
end Go.Proofs.YtjeehkdepoiegaaGreat
namespace Go.Proofs.YtjeehkdepoiegaaGreat
open Go.AL
set_option linter.unusedSimpArgs false
set_option linter.unusedVariables false
def IsEx (l : List Node) (e : Ex) : Prop := e.wf ∧ l = e.fl 0
open Classical in
noncomputable def treeO (l : List Node) : Option Ex := if h : ∃ e, IsEx l e then some (Classical.choose h) else none
theorem treeO_some {l : List Node} {e : Ex} (h : treeO l = some e) : IsEx l e := by
  unfold treeO at h
  split at h
  · rename_i hx; cases h; exact Classical.choose_spec hx
  · cases h
theorem treeO_none {l : List Node} (h : treeO l = none) (e : Ex) : ¬ IsEx l e := by
  unfold treeO at h
  split at h
  · cases h
  · rename_i hx; exact fun he => hx ⟨e, he⟩
theorem Ex.szs_end (e : Ex) : e.szs.getD (e.sz - 1) default = e.sz := by
  obtain ⟨l, hl⟩ := e.szs_last
  have h1 := e.szs_length
  rw [hl] at h1 ⊢
  simp at h1
  rw [← h1]
  simp [List.getD_eq_getElem?_getD]
theorem Ex.dps_end (e : Ex) : e.dps.getD (e.sz - 1) default = e.dp := by
  obtain ⟨l, hl⟩ := e.dps_last
  have h1 := e.dps_length
  rw [hl] at h1 ⊢
  simp at h1
  rw [← h1]
  simp [List.getD_eq_getElem?_getD]
theorem isEx_flF {l : List Node} {e : Ex} (h : IsEx l e) : l = flF 0 [e] := by rw [h.2]; simp [flF]
theorem IsEx.sizes {l : List Node} {e : Ex} (h : IsEx l e) : sizesF l = some (e.szs, e.dps) := by
  rw [isEx_flF h, sizesF_flF (by simpa using h.1)]; simp
theorem IsEx.tops {l : List Node} {e : Ex} (h : IsEx l e) : topsF l = some ([e.root 0], e.tops 0) := by
  rw [isEx_flF h, topsF_flF (by simpa using h.1)]; simp [rootsF, allF]
theorem IsEx.len {l : List Node} {e : Ex} (h : IsEx l e) : l.length = e.sz := by rw [h.2, e.fl_length]
theorem sizes_no {l : List Node} (h : treeO l = none) {s d : List Nat} (hs : sizesF l = some (s, d)) : (decide (0 < l.length) && (s.getD (l.length - 1) default == l.length)) = false := by
  obtain ⟨G, rfl, hw, hsd⟩ := sizesF_forest hs
  simp only [Prod.mk.injEq] at hsd
  rcases snoc_cases G with rfl | ⟨F, e, rfl⟩
  · simp [flF]
  · rcases snoc_cases F with rfl | ⟨F2, f, rfl⟩
    · exact absurd ⟨hw e (by simp), by simp [flF]⟩ (treeO_none h e)
    · have h1 : s.getD (szF (F2 ++ [f] ++ [e]) - 1) 0 = e.sz := by
        rw [hsd.1]
        have hp := e.sz_pos
        have := szs_at ((F2 ++ [f]).flatMap Ex.szs) [] e (szF (F2 ++ [f] ++ [e]) - 1) (by rw [szs_lenF, szF_app (F2 ++ [f]) [e]]; simp [szF]; omega)
        simpa using this
      rw [flF_length]
      have h2 : szF (F2 ++ [f] ++ [e]) = szF F2 + f.sz + e.sz := by simp [szF]; omega
      have := f.sz_pos
      have h3 : s.getD (szF (F2 ++ [f] ++ [e]) - 1) default = e.sz := h1
      rw [h3, h2]
      simp
      omega
theorem tops_no {l : List Node} (h : treeO l = none) {s a : List Top} (hs : topsF l = some (s, a)) : (s.length == 1) = false := by
  obtain ⟨G, rfl, hw, hsd⟩ := topsF_some hs
  simp only [Prod.mk.injEq] at hsd
  rw [hsd.1, rootsF_length]
  match G, hw, h with
  | [], _, _ => rfl
  | [e], hw, h => exact absurd ⟨hw e (by simp), by simp [flF]⟩ (treeO_none h e)
  | _ :: _ :: _, _, _ => simp
noncomputable def errL (l : List Node) : Int := if 60 < l.length then 4 else match treeO l with
  | some e => if 20 < e.dp then 34 else 0
  | none => 8
theorem errL_ok {l : List Node} (h : errL l = 0) : ∃ e, treeO l = some e ∧ IsEx l e ∧ e.sz ≤ 60 ∧ e.dp ≤ 20 := by
  unfold errL at h
  split at h
  · omega
  · cases ht : treeO l with
    | none => rw [ht] at h; simp at h
    | some e =>
      rw [ht] at h
      simp only at h
      split at h
      · omega
      · have := treeO_some ht
        exact ⟨e, rfl, this, by rw [← this.len]; omega, by omega⟩
theorem Ex.tops_end (e : Ex) (o : Nat) : (e.tops o).getD (e.sz - 1) default = ⟨o + e.sz - 1, e.sz, e.dp⟩ := by
  cases e with
  | leaf x => simp [Ex.tops, Ex.sz, Ex.dp]
  | un x e =>
    have : (e.tops o).length = e.sz := e.tops_length o
    simp only [Ex.tops, Ex.sz, Ex.dp, Nat.add_sub_cancel]
    rw [List.getD_eq_getElem?_getD, List.getElem?_append_right (by omega), this]
    simp
  | bin x e f =>
    have h1 := e.tops_length o
    have h2 := f.tops_length (o + e.sz)
    simp only [Ex.tops, Ex.sz, Ex.dp, Nat.add_sub_cancel]
    rw [List.getD_eq_getElem?_getD, List.getElem?_append_right (by simp [h1, h2])]
    simp [h1, h2]
    omega
end Go.Proofs.YtjeehkdepoiegaaGreat
namespace Go.Proofs.YtjeehkdepoiegaaGreat
open Go.AL
set_option linter.unusedSimpArgs false
set_option linter.unusedVariables false
end Go.Proofs.YtjeehkdepoiegaaGreat
namespace Go.Proofs.YtjeehkdepoiegaaGreat
open Go.AL
set_option linter.unusedSimpArgs false
set_option linter.unusedVariables false
structure Sub (e : Ex) (o j : Nat) (f : Ex) (pre post : List Node) (sp st : List Nat) : Prop where
  fl : e.fl o = pre ++ f.fl (o + pre.length) ++ post
  szs : e.szs = sp ++ f.szs ++ st
  len : sp.length = pre.length
  pos : pre.length + f.sz = j + 1
  wf : f.wf
  dp : f.dp ≤ e.dp
end Go.Proofs.YtjeehkdepoiegaaGreat
namespace Go.Proofs.YtjeehkdepoiegaaGreat
open Go.AL
set_option linter.unusedSimpArgs false
set_option linter.unusedVariables false
theorem Ex.hds : ∀ (e : Ex) (o : Nat), e.wf → ∀ x ∈ e.fl o, x.hd.ok
  | .leaf x, o, hw, y, hy => by simp [Ex.fl] at hy; subst hy; exact hw.1
  | .un x e, o, hw, y, hy => by
    simp only [Ex.fl, List.mem_append, List.mem_singleton] at hy
    rcases hy with hy | rfl
    · exact e.hds o hw.2.2.2 y hy
    · exact hw.1
  | .bin x e f, o, hw, y, hy => by
    simp only [Ex.fl, List.mem_append, List.mem_singleton] at hy
    rcases hy with (hy | hy) | rfl
    · exact e.hds o hw.2.2.1 y hy
    · exact f.hds _ hw.2.2.2 y hy
    · exact hw.1
theorem IsEx.hd {l : List Node} {e : Ex} (h : IsEx l e) : ∀ x ∈ l, x.hd.ok := fun x hx => e.hds 0 h.1 x (h.2 ▸ hx)
end Go.Proofs.YtjeehkdepoiegaaGreat
namespace Go.Proofs.YtjeehkdepoiegaaGreat
open Go.AL
set_option linter.unusedSimpArgs false
set_option linter.unusedVariables false
def givesB (k : Int) : Bool := decide (k = 6) || decide (12 ≤ k)
def fitsK (k : Int) (a b : Bool) : Bool :=
  if k ≤ 4 then true else if k = 5 then !a else if k = 6 then a else if k = 16 ∨ k = 17 then a == b else if 18 ≤ k then a && b else !a && !b
def kindAt (l : List Node) (i : Int) : Int := (l.getD i.toNat default).kind
def fitsAt (l : List Node) (i : Nat) : Bool :=
  fitsK (l.getD i default).kind (givesB (kindAt l (l.getD i default).a)) (givesB (kindAt l (l.getD i default).b))
def wrongFrom (l : List Node) : Nat → Nat → Nat
  | 0, k => k
  | n + 1, k => if fitsAt l k = true then wrongFrom l n (k + 1) else k
def wrongL (l : List Node) : Nat := wrongFrom l l.length 0
theorem wrongFrom_spec (l : List Node) : ∀ (n k : Nat), k ≤ wrongFrom l n k ∧ wrongFrom l n k ≤ k + n ∧ (∀ j, k ≤ j → j < wrongFrom l n k → fitsAt l j = true) ∧ (wrongFrom l n k < k + n → fitsAt l (wrongFrom l n k) = false)
  | 0, k => ⟨Nat.le_refl _, Nat.le_refl _, fun j h1 h2 => absurd h2 (by simp only [wrongFrom]; omega), fun h => absurd h (by simp only [wrongFrom]; omega)⟩
  | n + 1, k => by
    obtain ⟨h1, h2, h3, h4⟩ := wrongFrom_spec l n (k + 1)
    simp only [wrongFrom]
    by_cases h : fitsAt l k = true
    · rw [if_pos h]
      refine ⟨by omega, by omega, fun j a b => ?_, fun a => h4 (by omega)⟩
      by_cases hj : j = k
      · rw [hj]; exact h
      · exact h3 j (by omega) b
    · rw [if_neg h]
      exact ⟨Nat.le_refl _, by omega, fun j a b => by omega, fun _ => by simpa using h⟩
theorem wrongL_le (l : List Node) : wrongL l ≤ l.length := by have := (wrongFrom_spec l l.length 0).2.1; unfold wrongL; omega
theorem wrongL_fits {l : List Node} {j : Nat} (h : j < wrongL l) : fitsAt l j = true := (wrongFrom_spec l l.length 0).2.2.1 j (Nat.zero_le _) h
theorem wrongL_not {l : List Node} (h : wrongL l < l.length) : fitsAt l (wrongL l) = false := (wrongFrom_spec l l.length 0).2.2.2 (by unfold wrongL at h; omega)
structure AtOk (l : List Node) (i : Nat) (lo : Nat) : Prop where
  k1 : 1 ≤ (l.getD i default).kind
  k2 : (l.getD i default).kind ≤ 19
  ha : 4 < (l.getD i default).kind → (lo : Int) ≤ (l.getD i default).a ∧ (l.getD i default).a < i
  hb : 6 < (l.getD i default).kind → (lo : Int) ≤ (l.getD i default).b ∧ (l.getD i default).b < i
  za : (l.getD i default).kind ≤ 4 → (l.getD i default).a = 0
  zb : (l.getD i default).kind ≤ 6 → (l.getD i default).b = 0
theorem getD_right {α : Type} [Inhabited α] {l m : List α} {i : Nat} (h : l.length ≤ i) : (l ++ m).getD i default = m.getD (i - l.length) default := by
  simp only [List.getD_eq_getElem?_getD]; rw [List.getElem?_append_right h]
theorem Ex.ats : ∀ (e : Ex) (pre post : List Node) (i : Nat), e.wf → pre.length ≤ i → i < pre.length + e.sz → AtOk (pre ++ e.fl pre.length ++ post) i pre.length
  | .leaf x, pre, post, i, hw, h1, h2 => by
    have hi : i = pre.length := by simp [Ex.sz] at h2; omega
    subst hi
    have : (pre ++ (Ex.leaf x).fl pre.length ++ post).getD pre.length default = x.node 0 0 := by
      rw [List.append_assoc, getD_right (Nat.le_refl _), Nat.sub_self]; rfl
    refine ⟨?_, ?_, ?_, ?_, ?_, ?_⟩ <;> rw [this]
    · exact hw.1.k1
    · exact hw.1.k2
    · intro h; have := hw.2; simp [Hd.node] at h; omega
    · intro h; have := hw.2; simp [Hd.node] at h; omega
    · intro _; rfl
    · intro _; rfl
  | .un x e, pre, post, i, hw, h1, h2 => by
    have hp := e.sz_pos
    simp only [Ex.sz] at h2
    by_cases hi : i < pre.length + e.sz
    · have := e.ats pre ([x.node ((pre.length + e.sz - 1 : Nat) : Int) 0] ++ post) i hw.2.2.2 h1 hi
      simpa [Ex.fl, List.append_assoc] using this
    · have hi : i = pre.length + e.sz := by omega
      subst hi
      have : (pre ++ (Ex.un x e).fl pre.length ++ post).getD (pre.length + e.sz) default = x.node ((pre.length + e.sz - 1 : Nat) : Int) 0 := by
        rw [List.append_assoc, getD_right (by omega)]
        simp only [Ex.fl, List.append_assoc]
        rw [getD_right (by rw [e.fl_length]; omega), e.fl_length]
        simp
      have k1 := hw.2.1
      have k2 := hw.2.2.1
      refine ⟨?_, ?_, ?_, ?_, ?_, ?_⟩ <;> rw [this] <;> simp only [Hd.node]
      · exact hw.1.k1
      · exact hw.1.k2
      · intro h; omega
      · intro h; omega
      · intro h; omega
      · intro h; trivial
  | .bin x e f, pre, post, i, hw, h1, h2 => by
    have hp := e.sz_pos
    have hq := f.sz_pos
    simp only [Ex.sz] at h2
    by_cases hi : i < pre.length + e.sz
    · have := e.ats pre (f.fl (pre.length + e.sz) ++ [x.node ((pre.length + e.sz - 1 : Nat) : Int) ((pre.length + e.sz + f.sz - 1 : Nat) : Int)] ++ post) i hw.2.2.1 h1 hi
      simpa [Ex.fl, List.append_assoc] using this
    · by_cases hi2 : i < pre.length + e.sz + f.sz
      · have := f.ats (pre ++ e.fl pre.length) ([x.node ((pre.length + e.sz - 1 : Nat) : Int) ((pre.length + e.sz + f.sz - 1 : Nat) : Int)] ++ post) i hw.2.2.2 (by rw [List.length_append, e.fl_length]; omega) (by rw [List.length_append, e.fl_length]; omega)
        rw [List.length_append, e.fl_length] at this
        have h3 : AtOk (pre ++ (Ex.bin x e f).fl pre.length ++ post) i (pre.length + e.sz) := by simpa [Ex.fl, List.append_assoc] using this
        exact ⟨h3.k1, h3.k2, fun h => ⟨by have := (h3.ha h).1; omega, (h3.ha h).2⟩, fun h => ⟨by have := (h3.hb h).1; omega, (h3.hb h).2⟩, h3.za, h3.zb⟩
      · have hi : i = pre.length + e.sz + f.sz := by omega
        subst hi
        have : (pre ++ (Ex.bin x e f).fl pre.length ++ post).getD (pre.length + e.sz + f.sz) default = x.node ((pre.length + e.sz - 1 : Nat) : Int) ((pre.length + e.sz + f.sz - 1 : Nat) : Int) := by
          rw [List.append_assoc, getD_right (by omega)]
          simp only [Ex.fl, List.append_assoc]
          rw [getD_right (by rw [e.fl_length]; omega), e.fl_length, getD_right (by rw [f.fl_length]; omega), f.fl_length, show pre.length + e.sz + f.sz - pre.length - e.sz - f.sz = 0 by omega]
          rfl
        have k1 := hw.2.1
        refine ⟨?_, ?_, ?_, ?_, ?_, ?_⟩ <;> rw [this] <;> simp only [Hd.node]
        · exact hw.1.k1
        · exact hw.1.k2
        · intro h; omega
        · intro h; omega
        · intro h; omega
        · intro h; omega
theorem IsEx.at {l : List Node} {e : Ex} (h : IsEx l e) {i : Nat} (hi : i < l.length) : AtOk l i 0 := by
  have := e.ats [] [] i h.1 (Nat.zero_le _) (by rw [← h.len]; simpa using hi)
  simpa [← h.2] using this
theorem fitsK_leaf {k : Int} (h : k ≤ 4) (a b : Bool) : fitsK k a b = true := by unfold fitsK; rw [if_pos h]
end Go.Proofs.YtjeehkdepoiegaaGreat
namespace Go.Proofs.YtjeehkdepoiegaaGreat
open Go.AL
set_option linter.unusedSimpArgs false
set_option linter.unusedVariables false
def w64 (n : Int) : Int := IntKind.i64.wrap n
def i64B (x : Int) : Prop := -9223372036854775808 ≤ x ∧ x ≤ 9223372036854775807
theorem w64_eq (n : Int) : w64 n = if n % 18446744073709551616 ≥ 9223372036854775808 then n % 18446744073709551616 - 18446744073709551616 else n % 18446744073709551616 := by
  simp [w64, IntKind.wrap, IntKind.bits, IntKind.signed]
theorem w64_B (n : Int) : i64B (w64 n) := by
  rw [w64_eq]; unfold i64B; split <;> omega
theorem w64_id {n : Int} (h : i64B n) : w64 n = n := by
  unfold i64B at h
  rw [w64_eq]; split <;> omega
def shC (b : Int) : Nat := (b % 64).toNat
theorem shC_lt (b : Int) : shC b < 64 := by unfold shC; omega
theorem and63 (b : Int) : bAnd .i64 b 63 = ((shC b : Nat) : Int) := by
  unfold bAnd
  have h1 : (BitVec.ofInt IntKind.i64.bits b &&& BitVec.ofInt IntKind.i64.bits 63).toNat = shC b := by
    rw [BitVec.toNat_and, BitVec.toNat_ofInt, BitVec.toNat_ofInt]
    have e : ((63 : Int) % ((2 ^ IntKind.i64.bits : Nat) : Int)).toNat = 2 ^ 6 - 1 := by decide
    rw [e, Nat.and_two_pow_sub_one_eq_mod]
    have e2 : ((2 ^ IntKind.i64.bits : Nat) : Int) = 18446744073709551616 := by decide
    rw [e2]
    unfold shC
    omega
  rw [h1]
  have := shC_lt b
  exact w64_id (by unfold i64B; omega)
theorem bOr_0 {a b : Int} (ha : i64B a) (hb : i64B b) : (bOr .i64 a b != 0) = (a != 0 || b != 0) := by
  unfold bOr
  have e2 : ((2 ^ IntKind.i64.bits : Nat) : Int) = 18446744073709551616 := by decide
  have h0 : ∀ x : Int, i64B x → (BitVec.ofInt IntKind.i64.bits x = 0#_ ↔ x = 0) := fun x hx => by
    constructor
    · intro h
      have := congrArg BitVec.toNat h
      rw [BitVec.toNat_ofInt, e2] at this
      simp at this
      unfold i64B at hx
      omega
    · rintro rfl
      rfl
  have h1 : IntKind.i64.wrap (((BitVec.ofInt IntKind.i64.bits a ||| BitVec.ofInt IntKind.i64.bits b).toNat : Nat) : Int) = 0 ↔ a = 0 ∧ b = 0 := by
    have hlt := (BitVec.ofInt IntKind.i64.bits a ||| BitVec.ofInt IntKind.i64.bits b).isLt
    have e3 : 2 ^ IntKind.i64.bits = 18446744073709551616 := by decide
    have : ∀ n : Nat, n < 18446744073709551616 → (IntKind.i64.wrap (n : Int) = 0 ↔ n = 0) := fun n hn => by
      have := w64_eq (n : Int)
      unfold w64 at this
      rw [this]
      split <;> omega
    rw [this _ (by omega)]
    constructor
    · intro h
      have hz : (BitVec.ofInt IntKind.i64.bits a ||| BitVec.ofInt IntKind.i64.bits b) = 0#_ := BitVec.eq_of_toNat_eq (by rw [h]; rfl)
      rw [BitVec.or_eq_zero_iff] at hz
      exact ⟨(h0 a ha).1 hz.1, (h0 b hb).1 hz.2⟩
    · rintro ⟨rfl, rfl⟩
      rfl
  by_cases g : a = 0 ∧ b = 0
  · rw [h1.2 g, g.1, g.2]; rfl
  · have : IntKind.i64.wrap (((BitVec.ofInt IntKind.i64.bits a ||| BitVec.ofInt IntKind.i64.bits b).toNat : Nat) : Int) ≠ 0 := fun h => g (h1.1 h)
    rw [bne_iff_ne.2 this]
    symm
    rw [Bool.or_eq_true, bne_iff_ne, bne_iff_ne]
    by_cases ga : a = 0
    · exact .inr fun h => g ⟨ga, h⟩
    · exact .inl ga
def trI (b : Bool) : Int := if b = true then 1 else 0
theorem trI_B (b : Bool) : i64B (trI b) := by cases b <;> simp [trI, i64B]
def cmpB (k a b : Int) : Bool := if k = 12 then decide (a < b) else if k = 13 then decide (a ≤ b) else if k = 14 then decide (b < a) else if k = 15 then decide (b ≤ a) else if k = 16 then a == b else a != b
def doV (k a b : Int) : Int :=
  if k = 5 then w64 (0 - a) else if k = 6 then trI (a == 0) else if k = 7 then w64 (a * b) else if k = 8 then w64 (a + b) else if k = 9 then w64 (a - b)
  else if k = 10 then w64 (a * 2 ^ shC b) else if k = 11 then a.fdiv (2 ^ shC b) else if k = 18 then trI (a != 0 && b != 0) else if k = 19 then trI (a != 0 || b != 0)
  else trI (cmpB k a b)
theorem fdiv_B {a : Int} (h : i64B a) (n : Nat) : i64B (a.fdiv (2 ^ n)) := by
  have hp : (0 : Int) < 2 ^ n := Int.pow_pos (by decide)
  rw [Int.fdiv_eq_ediv_of_nonneg _ (Int.le_of_lt hp)]
  unfold i64B at h ⊢
  constructor
  · refine (Int.le_ediv_iff_mul_le hp).2 ?_
    have : (1 : Int) ≤ 2 ^ n := hp
    have := Int.mul_le_mul_of_nonneg_left this (by decide : (0 : Int) ≤ 9223372036854775808)
    omega
  · by_cases h0 : 0 ≤ a
    · exact Int.le_trans (Int.ediv_le_self _ h0) h.2
    · have : a / 2 ^ n < 0 := Int.ediv_neg_of_neg_of_pos (by omega) hp
      omega
theorem doV_B {k a b : Int} (h : i64B a) : i64B (doV k a b) := by
  unfold doV
  repeat' split
  all_goals first | exact w64_B _ | exact trI_B _ | exact fdiv_B h _
def leafV (k n : Int) (r : Rcd) : Int := if k = 1 then n else if k = 2 then r.key else if k = 3 then r.t else r.v
def nodeV (r : Rcd) (x : Node) (vs : List Int) : Int := if x.kind ≤ 4 then leafV x.kind x.n r else doV x.kind (vs.getD x.a.toNat default) (vs.getD x.b.toNat default)
def valsL (r : Rcd) (l : List Node) : List Int := l.foldl (fun vs x => vs ++ [nodeV r x vs]) []
theorem valsL_snoc (r : Rcd) (l : List Node) (x : Node) : valsL r (l ++ [x]) = valsL r l ++ [nodeV r x (valsL r l)] := by
  unfold valsL; rw [List.foldl_append]; rfl
theorem take_snoc {l : List Node} {k : Nat} (hk : k < l.length) : l.take (k + 1) = l.take k ++ [l.getD k default] := by
  rw [List.take_add_one, List.getElem?_eq_getElem hk, List.getD_eq_getElem?_getD, List.getElem?_eq_getElem hk]; rfl
theorem valsL_next {r : Rcd} {l : List Node} {k : Nat} (hk : k < l.length) : valsL r (l.take (k + 1)) = valsL r (l.take k) ++ [nodeV r (l.getD k default) (valsL r (l.take k))] := by
  rw [take_snoc hk, valsL_snoc]
theorem valsL_length (r : Rcd) : ∀ l : List Node, (valsL r l).length = l.length := by
  intro l
  suffices H : ∀ k, k ≤ l.length → (valsL r (l.take k)).length = k by have := H l.length (Nat.le_refl _); rwa [List.take_length] at this
  intro k
  induction k with
  | zero => intro _; rfl
  | succ k ih => intro h; rw [valsL_next (by omega), List.length_append, ih (by omega)]; rfl
theorem valsL_take {r : Rcd} {l : List Node} : ∀ {k : Nat}, k ≤ l.length → valsL r (l.take k) = (valsL r l).take k := by
  suffices H : ∀ d k, k + d = l.length → valsL r (l.take k) = (valsL r l).take k from fun {k} h => H (l.length - k) k (by omega)
  intro d
  induction d with
  | zero => intro k h; rw [show k = l.length by omega, List.take_length, List.take_of_length_le (by rw [valsL_length]; exact Nat.le_refl _)]
  | succ d ih =>
    intro k h
    have h1 := ih (k + 1) (by omega)
    rw [valsL_next (by omega)] at h1
    have h2 := congrArg (List.take k) h1
    rw [List.take_take, Nat.min_eq_left (by omega), List.take_append_of_le_length (by rw [valsL_length]; simp; omega), List.take_of_length_le (by rw [valsL_length]; simp; omega)] at h2
    exact h2
def valAt (r : Rcd) (l : List Node) (j : Nat) : Int := (valsL r l).getD j default
theorem valAt_take {r : Rcd} {l : List Node} {k j : Nat} (hk : k ≤ l.length) (hj : j < k) : (valsL r (l.take k)).getD j default = valAt r l j := by
  unfold valAt
  rw [valsL_take hk]
  simp only [List.getD_eq_getElem?_getD]
  rw [List.getElem?_take_of_lt hj]
theorem valAt_node {r : Rcd} {l : List Node} {k : Nat} (hk : k < l.length) : valAt r l k = nodeV r (l.getD k default) (valsL r (l.take k)) := by
  rw [← valAt_take (k := k + 1) (by omega) (by omega), valsL_next hk]
  simp only [List.getD_eq_getElem?_getD]
  rw [List.getElem?_append_right (by rw [valsL_length]; simp; omega), valsL_length]
  simp [Nat.min_eq_left (Nat.le_of_lt hk)]
theorem valAt_leaf {r : Rcd} {l : List Node} {k : Nat} (hk : k < l.length) (h : (l.getD k default).kind ≤ 4) : valAt r l k = leafV (l.getD k default).kind (l.getD k default).n r := by
  rw [valAt_node hk]; unfold nodeV; rw [if_pos h]
theorem valAt_bin {r : Rcd} {l : List Node} {k : Nat} (hk : k < l.length) (h : 4 < (l.getD k default).kind) (h0 : 0 ≤ (l.getD k default).a) (h1 : (l.getD k default).a < k) (h2 : 0 ≤ (l.getD k default).b) (h3 : (l.getD k default).b < k) :
    valAt r l k = doV (l.getD k default).kind (valAt r l (l.getD k default).a.toNat) (valAt r l (l.getD k default).b.toNat) := by
  rw [valAt_node hk]; unfold nodeV; rw [if_neg (by omega), valAt_take (by omega) (by omega), valAt_take (by omega) (by omega)]
def Rcd.B (r : Rcd) : Prop := i64B r.key ∧ i64B r.t ∧ i64B r.v
theorem valAt_B {r : Rcd} {l : List Node} (hr : r.B) (hn : ∀ x ∈ l, i64B x.n) : ∀ j, i64B (valAt r l j) := by
  intro j
  induction j using Nat.strongRecOn with
  | _ j ih =>
    by_cases hj : j < l.length
    · rw [valAt_node hj]
      unfold nodeV leafV
      obtain ⟨h1, h2, h3⟩ := hr
      split
      · split
        · have : l.getD j default ∈ l := by rw [List.getD_eq_getElem?_getD, List.getElem?_eq_getElem hj]; exact List.getElem_mem _
          exact hn _ this
        · split
          · exact h1
          · split
            · exact h2
            · exact h3
      · refine doV_B ?_
        by_cases ha : (l.getD j default).a.toNat < j
        · rw [valAt_take (by omega) ha]; exact ih _ ha
        · have : (valsL r (l.take j)).length = j := by rw [valsL_length]; simp; omega
          rw [List.getD_eq_getElem?_getD, List.getElem?_eq_none (by omega)]
          exact ⟨by decide, by decide⟩
    · have : (valsL r l).length = l.length := valsL_length r l
      unfold valAt
      rw [List.getD_eq_getElem?_getD, List.getElem?_eq_none (by omega)]
      exact ⟨by decide, by decide⟩
end Go.Proofs.YtjeehkdepoiegaaGreat
namespace Go.Proofs.YtjeehkdepoiegaaGreat
open Go.AL
set_option linter.unusedSimpArgs false
set_option linter.unusedVariables false
structure Win where
  kind : Int
  size : Int
  every : Int
  deriving DecidableEq, Inhabited
def Win.cells (w : Win) : List AV := [.lit (.int .u8 w.kind), .lit (.int .i64 w.size), .lit (.int .i64 w.every)]
def winP (w : Win) : Prop := 1 ≤ w.size ∧ w.size ≤ 1073741824 ∧ ((w.kind = 2 ∧ 1 ≤ w.every ∧ w.every ≤ w.size ∧ w.size ≤ 16 * w.every) ∨ ((w.kind = 1 ∨ w.kind = 3) ∧ w.every = 0))
instance (w : Win) : Decidable (winP w) := by unfold winP; infer_instance
def winE (w : Win) : Int := if winP w then 0 else 8
def outB (l : List Int) : Bool := l.any fun x => decide (x < 0) || decide (3 < x)
def srcE (l : List Int) (join : Bool) : Int :=
  if 4 < l.length then 4 else if l.length = 0 ∨ (join = true ∧ l.length ≠ 2) ∨ outB l = true then 8 else if l.Nodup then 0 else 43
def intsV (l : List Int) : AV := .ro 1 (l.map fun x => [.lit (.int .i64 x)])
def firstFrom (p : Nat → Bool) : Nat → Nat → Nat
  | 0, k => k
  | n + 1, k => if p k = true then k else firstFrom p n (k + 1)
theorem firstFrom_spec (p : Nat → Bool) : ∀ (n k : Nat), k ≤ firstFrom p n k ∧ firstFrom p n k ≤ k + n ∧ (∀ j, k ≤ j → j < firstFrom p n k → p j = false) ∧ (firstFrom p n k < k + n → p (firstFrom p n k) = true)
  | 0, k => ⟨Nat.le_refl _, Nat.le_refl _, fun j h1 h2 => absurd h2 (by simp only [firstFrom]; omega), fun h => absurd h (by simp only [firstFrom]; omega)⟩
  | n + 1, k => by
    obtain ⟨h1, h2, h3, h4⟩ := firstFrom_spec p n (k + 1)
    simp only [firstFrom]
    by_cases h : p k = true
    · rw [if_pos h]
      exact ⟨Nat.le_refl _, by omega, fun j a b => by omega, fun _ => h⟩
    · rw [if_neg h]
      refine ⟨by omega, by omega, fun j a b => ?_, fun a => h4 (by omega)⟩
      by_cases hj : j = k
      · rw [hj]; simpa using h
      · exact h3 j (by omega) b
theorem firstFrom_uniq {p : Nat → Bool} {n k : Nat} (h1 : k ≤ n) (h2 : ∀ j, j < k → p j = false) (h3 : k < n → p k = true) : firstFrom p n 0 = k := by
  obtain ⟨_, b, c, d⟩ := firstFrom_spec p n 0
  rcases Nat.lt_trichotomy (firstFrom p n 0) k with h | h | h
  · have := d (by omega); rw [h2 _ h] at this; cases this
  · exact h
  · have := c k (Nat.zero_le _) h; rw [h3 (by omega)] at this; cases this
def outAt (l : List Int) (j : Nat) : Bool := decide (l.getD j default < 0) || decide (3 < l.getD j default)
def outI (l : List Int) : Int := if firstFrom (outAt l) l.length 0 < l.length then (firstFrom (outAt l) l.length 0 : Nat) else -1
theorem outB_at {l : List Int} : outB l = true ↔ ∃ j, j < l.length ∧ outAt l j = true := by
  unfold outB outAt
  rw [List.any_eq_true]
  constructor
  · rintro ⟨x, hx, h⟩
    obtain ⟨j, hj, rfl⟩ := List.mem_iff_getElem.1 hx
    exact ⟨j, hj, by simpa [List.getD_eq_getElem?_getD, List.getElem?_eq_getElem hj] using h⟩
  · rintro ⟨j, hj, h⟩
    exact ⟨l[j], List.getElem_mem hj, by simpa [List.getD_eq_getElem?_getD, List.getElem?_eq_getElem hj] using h⟩
theorem outI_pos {l : List Int} : decide (0 ≤ outI l) = outB l := by
  obtain ⟨_, b, c, d⟩ := firstFrom_spec (outAt l) l.length 0
  unfold outI
  cases ho : outB l with
  | true =>
    obtain ⟨j, hj, h⟩ := outB_at.1 ho
    have : firstFrom (outAt l) l.length 0 < l.length := by
      rcases Nat.lt_or_ge (firstFrom (outAt l) l.length 0) l.length with h1 | h1
      · exact h1
      · have := c j (Nat.zero_le _) (by omega); rw [h] at this; cases this
    rw [if_pos this]; simp
  | false =>
    have : ¬ firstFrom (outAt l) l.length 0 < l.length := fun h1 => by
      have := outB_at.2 ⟨_, h1, d (by omega)⟩
      rw [ho] at this; cases this
    rw [if_neg this]; rfl
end Go.Proofs.YtjeehkdepoiegaaGreat
