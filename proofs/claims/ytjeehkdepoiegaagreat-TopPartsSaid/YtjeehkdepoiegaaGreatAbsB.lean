/-
  The abstract layer, second part: what single operations yield; contracts of calls. Over whatever program; no program in sight.
-/
import Derived.Test.YtjeehkdepoiegaaGreatAbsA
set_option linter.unusedSimpArgs false
set_option linter.unusedVariables false
set_option linter.constructorNameAsVariable false
namespace Go.AL
open Go.RowKit
set_option linter.unusedSimpArgs false
set_option linter.unusedVariables false
/-! ### the values of operations that leave memory alone -/
def splice : List AV → Nat → List AV → List AV
  | cs, _, [] => cs
  | [], _, _ :: _ => []
  | _ :: cs, 0, n :: ns => n :: splice cs 0 ns
  | c :: cs, k + 1, n :: ns => c :: splice cs k (n :: ns)
def acells : AV → Option (List AV)
  | .agg cs => some cs
  | .lit u => if u.oneCell' then some [.lit u] else none
  | .ro sz xs => some [.ro sz xs]
  | .rop cs => some [.rop cs]
  | .own r sz off len => some [.own r sz off len]
  | .rp r sz i f => some [.rp r sz i f]
  | .bp b off => some [.bp b off]
  | .fn g cs => some [.fn g cs]
  | _ => none
def fillA (pl : List (Nat × Nat)) : List AV → List (Nat × AV) → Option (List AV)
  | cells, [] => some cells
  | cells, (i, v) :: rest =>
    match pl[i]?, acells v with
    | some p, some cs => if cs.length = p.2 ∧ p.1 + p.2 ≤ cells.length then fillA pl (splice cells p.1 cs) rest else none
    | _, _ => none
def zeroL (P : Program) (t : TypeId) : Option (List Value) :=
  match P.info? t with
  | some i => i.zero.map (·.cells.toList)
  | none => none
def bldPl (P : Program) (t : TypeId) : Option (List (Nat × Nat)) :=
  match P.info? t, P.underlying t with
  | some _, some (.array n e) => (P.info? e).map fun ie => (List.range n).map fun i => (i * ie.size, ie.size)
  | some _, some (.struct fields) => fields.toList.mapM (fun f => (P.info? f.type).map fun i => (f.offset, i.size))
  | _, _ => none
def rBuild (P : Program) (t : TypeId) (parts : List (Nat × AV)) : AV × Prop :=
  match zeroL P t, bldPl P t with
  | some z, some pl => match fillA pl (z.map .lit) parts with
    | some cs => (.agg cs, True)
    | none => (.any, False)
  | _, _ => (.any, False)
def ck : AV → Option CK
  | .lit v => ckV v
  | _ => none
def eqA : AV → AV → Bool
  | .lit (.int _ a), .lit (.int _ b) => a == b
  | .lit (.bool a), .lit (.bool b) => a == b
  | .lit (.string a), .lit (.string b) => a == b
  | _, _ => false
def kdA : AV → AV → Bool
  | .lit (.int k _), .lit (.int k' _) => decide (k = k')
  | .lit (.bool _), .lit (.bool _) => true
  | .lit (.string _), .lit (.string _) => true
  | _, _ => false
def eqAs : List AV → List AV → Bool
  | [], [] => true
  | a :: as, b :: bs => eqA a b && eqAs as bs
  | _, _ => false
def kdAs : List AV → List AV → Bool
  | [], [] => true
  | a :: as, b :: bs => kdA a b && kdAs as bs
  | _, _ => false
def eqT (P : Program) (t : TypeId) : Option (List (Option CK)) :=
  match P.underlying t with
  | some d => if aggD d && !(P.eqGuardType P.depth t) then (eqSh P 12 t).map (·.map some) else none
  | none => none
def boolT (P : Program) (t : TypeId) : Bool :=
  match P.underlying t with
  | some .bool => true
  | _ => false
def bAnd (k : IntKind) (x y : Int) : Int := k.wrap ((BitVec.ofInt k.bits x &&& BitVec.ofInt k.bits y).toNat : Int)
def bOr (k : IntKind) (x y : Int) : Int := k.wrap ((BitVec.ofInt k.bits x ||| BitVec.ofInt k.bits y).toNat : Int)
def rBin (P : Program) (op : BinOp) (t : TypeId) : AV → AV → AV × Prop
  | .lit (.int k a), .lit (.int k' b) =>
    match op with
    | .add => (.lit (.int k (k.wrap (a + b))), k = k')
    | .sub => (.lit (.int k (k.wrap (a - b))), k = k')
    | .mul => (.lit (.int k (k.wrap (a * b))), k = k')
    | .quo => (.lit (.int k (k.wrap (a.tdiv b))), k = k' ∧ b ≠ 0)
    | .rem => (.lit (.int k (a.tmod b)), k = k' ∧ b ≠ 0)
    | .eql => (.lit (.bool (a == b)), k = k')
    | .neq => (.lit (.bool (a != b)), k = k')
    | .lss => (.lit (.bool (decide (a < b))), k = k')
    | .leq => (.lit (.bool (decide (a ≤ b))), k = k')
    | .gtr => (.lit (.bool (decide (b < a))), k = k')
    | .geq => (.lit (.bool (decide (b ≤ a))), k = k')
    | .and => (.lit (.int k (bAnd k a b)), k = k')
    | .or => (.lit (.int k (bOr k a b)), k = k')
    | .shl => (.lit (.int k (k.wrap (a * 2 ^ min b.toNat k.bits))), 0 ≤ b)
    | .shr => (.lit (.int k (a.fdiv (2 ^ min b.toNat k.bits))), 0 ≤ b)
    | _ => (.any, False)
  | .lit (.bool a), .lit (.bool b) =>
    match op with
    | .eql => (.lit (.bool (a == b)), boolT P t = true)
    | .neq => (.lit (.bool (a != b)), boolT P t = true)
    | _ => (.any, False)
  | .lit (.string a), .lit (.string b) =>
    match op with
    | .eql => (.lit (.bool (a == b)), True)
    | .neq => (.lit (.bool (!(a == b))), True)
    | _ => (.any, False)
  | .lit (.slice A _ _), .lit (.slice none _ _) =>
    match op with
    | .eql => (.lit (.bool A.isNone), (elS P t).isSome = true)
    | .neq => (.lit (.bool (!A.isNone)), (elS P t).isSome = true)
    | _ => (.any, False)
  | .ro _ (_ :: _), .lit (.slice none _ _) =>
    match op with
    | .eql => (.lit (.bool false), (elS P t).isSome = true)
    | .neq => (.lit (.bool true), (elS P t).isSome = true)
    | _ => (.any, False)
  | .agg as, .agg bs =>
    match op with
    | .eql => (.lit (.bool (eqAs as bs)), eqT P t = some (as.map ck) ∧ kdAs as bs = true)
    | .neq => (.lit (.bool (!(eqAs as bs))), eqT P t = some (as.map ck) ∧ kdAs as bs = true)
    | _ => (.any, False)
  | _, _ => (.any, False)
def rUn (op : UnOp) : AV → AV × Prop
  | .lit (.bool b) => match op with
    | .not => (.lit (.bool (!b)), True)
    | _ => (.any, False)
  | .lit (.int k n) => match op with
    | .neg => (.lit (.int k (k.wrap (0 - n))), True)
    | _ => (.any, False)
  | _ => (.any, False)
def cvT (P : Program) (src dst : TypeId) : Option IntKind :=
  match P.underlying src, P.underlying dst with
  | some _, some (.int k) => some k
  | _, _ => none
def rConv (P : Program) (src dst : TypeId) : AV → AV × Prop
  | .lit (.int _ n) => match cvT P src dst with
    | some k => (.lit (.int k (k.wrap n)), True)
    | none => (.any, False)
  | _ => (.any, False)
def rFA (o : Option Nat) : AV → AV × Prop
  | .rop cs => match o with
    | some o => (.rop (cs.drop o), True)
    | none => (.any, False)
  | .bp b off => match o with
    | some o => (.bp b (off + o), True)
    | none => (.any, False)
  | .rp r sz i f => match o with
    | some o => (.rp r sz i (f + o), True)
    | none => (.any, False)
  | _ => (.any, False)
def rIA (P : Program) (t : TypeId) : AV → AV → AV × Prop
  | .ro sz xs, .lit (.int _ i) => (.rop (xs.getD i.toNat []), elS P t = some sz ∧ 0 ≤ i ∧ i < xs.length)
  | .own r sz off len, .lit (.int _ i) => (.rp r sz (off + i.toNat) 0, elS P t = some sz ∧ 0 ≤ i ∧ i < len)
  | .bp b off, .lit (.int _ i) => match arS P t with
    | some p => (.bp b (off + i.toNat * p.2), 0 ≤ i ∧ i < p.1)
    | none => (.any, False)
  | .rop cs, .lit (.int _ i) => match arS P t with
    | some p => (.rop (cs.drop (i.toNat * p.2)), 0 ≤ i ∧ i < p.1)
    | none => (.any, False)
  | .rp r sz k f, .lit (.int _ i) => match arS P t with
    | some p => (.rp r sz k (f + i.toNat * p.2), 0 ≤ i ∧ i < p.1)
    | none => (.any, False)
  | _, _ => (.any, False)
def bnd (dflt : Nat) : Option AV → Option Int
  | none => some dflt
  | some (.lit (.int _ i)) => some i
  | _ => none
def rSl (P : Program) (t : TypeId) (x : AV) (lo hi mx : Option AV) : AV × Prop :=
  match x with
  | .ro sz xs => match bnd 0 lo, bnd xs.length hi, bnd xs.length mx with
    | some l, some h, some m => (.ro sz ((xs.drop l.toNat).take (h.toNat - l.toNat)), elS P t = some sz ∧ 0 ≤ l ∧ l ≤ h ∧ h ≤ m ∧ m ≤ xs.length ∧ (mx.isSome = true → hi.isSome = true))
    | _, _, _ => (.any, False)
  | .own r sz off len => match bnd 0 lo, bnd len hi, bnd len mx with
    | some l, some h, some m => (.own r sz (off + l.toNat) (h.toNat - l.toNat), elS P t = some sz ∧ 0 ≤ l ∧ l ≤ h ∧ h ≤ m ∧ m ≤ len ∧ (mx.isSome = true → hi.isSome = true ∧ off + l.toNat ≠ 0))
    | _, _, _ => (.any, False)
  | .lit (.slice A n c) => match bnd 0 lo, bnd n hi, mx, elS P t with
    | some l, some h, none, some sz => (.lit (.slice (if c = l.toNat then A else A.map (·.add (l.toNat * sz))) (h.toNat - l.toNat) (c - l.toNat)), 0 ≤ l ∧ l ≤ h ∧ h ≤ c)
    | _, _, _, _ => (.any, False)
  | .lit (.string s) => match bnd 0 lo, bnd s.size hi, mx with
    | some l, some h, none => (.lit (.string (s.extract l.toNat h.toNat)), strT P t = true ∧ 0 ≤ l ∧ l ≤ h ∧ h ≤ s.size)
    | _, _, _ => (.any, False)
  | _ => (.any, False)
where strT (P : Program) (t : TypeId) : Bool :=
  match P.underlying t with
  | some .string => true
  | _ => false
def rLen (P : Program) (t : TypeId) (x : AV) : AV × Prop :=
  match x with
  | .ro _ xs => (.lit (.int .i64 xs.length), (elS P t).isSome = true)
  | .own _ _ _ len => (.lit (.int .i64 len), (elS P t).isSome = true)
  | .lit (.slice _ n _) => (.lit (.int .i64 n), (elS P t).isSome = true)
  | .lit (.string s) => (.lit (.int .i64 s.size), rSl.strT P t = true)
  | _ => (.any, False)
def rBi (P : Program) (b : Builtin) (ts : List TypeId) (args : List AV) : AV × Prop :=
  match b, ts, args with
  | .len, [t], [x] => rLen P t x
  | .max, _, [.lit (.int k x), .lit (.int _ y)] => (.lit (.int k (if y > x then y else x)), True)
  | .min, _, [.lit (.int k x), .lit (.int _ y)] => (.lit (.int k (if y < x then y else x)), True)
  | _, _, _ => (.any, False)
def rEx (x : AV) (i : Nat) : AV × Prop :=
  match x with
  | .tup vs => (vs.getD i .any, i < vs.length)
  | _ => (.any, False)
def isPtr : AV → Bool
  | .rop _ => true
  | .rp _ _ _ _ => true
  | .bp _ _ => true
  | _ => false
def ares (P : Program) (boxes : List (List AV)) (rows : List (Option Row)) (ev : Operand → AV) (op : Op) : AV × Prop :=
  match op with
  | .move x => (ev x, True)
  | .assign x => (ev x, True)
  | .load t a => aload P t (cellsAt boxes rows (ev a))
  | .binOp op t x y _ => rBin P op t (ev x) (ev y)
  | .unOp op _ x => rUn op (ev x)
  | .nilCheck x => (ev x, isPtr (ev x) = true)
  | .convert s d x => rConv P s d (ev x)
  | .fieldAddr s x f => rFA (fldO P s f) (ev x)
  | .indexAddr t x i => rIA P t (ev x) (ev i)
  | .build t parts => rBuild P t (parts.toList.map fun p => (p.1, ev p.2))
  | .slice t x lo hi mx => rSl P t (ev x) (lo.map ev) (hi.map ev) (mx.map ev)
  | .extract x i => rEx (ev x) i
  | .call c => match c.callee with
    | .builtin b => rBi P b c.argTypes.toList (c.args.toList.map ev)
    | _ => (.any, False)
  | .makeFunc fn f c => match c.size, f.size with
    | 0, 0 => (.lit (.func fn #[] #[]), True)
    | _, 0 => match fn with
      | .func g => (.fn g (c.toList.map ev), True)
      | _ => (.any, False)
    | _, _ => (.any, False)
  | _ => (.any, False)
end Go.AL
namespace Go.AL
open Go.RowKit
set_option linter.unusedSimpArgs false
set_option linter.unusedVariables false
variable {P : Program} {w : World} {S : Nat → Prop} {γ : List Nat} {ρ : List Value}
/-! #### equality of structs -/
theorem lits_of {b : Bool} {cs : List AV} {us : List Value} {sh : List CK} (hl : us.length = cs.length) (hv : ∀ (i : Nat) (c : AV) (u : Value), cs[i]? = some c → us[i]? = some u → V w S γ ρ b c u)
    (hk : cs.map ck = sh.map some) : cs = us.map .lit ∧ us.map ckV = sh.map some := by
  have h1 : cs = us.map .lit := by
    apply List.ext_getElem?
    intro i
    rw [List.getElem?_map]
    by_cases hi : i < cs.length
    · obtain ⟨c, hc⟩ : ∃ c, cs[i]? = some c := ⟨_, List.getElem?_eq_getElem hi⟩
      obtain ⟨u, hu⟩ : ∃ u, us[i]? = some u := ⟨_, List.getElem?_eq_getElem (by omega)⟩
      have hvi := hv i _ _ hc hu
      have hki : (cs.map ck)[i]? = (sh.map some)[i]? := by rw [hk]
      rw [List.getElem?_map, List.getElem?_map, hc] at hki
      rw [hc, hu]
      cases hs : sh[i]? with
      | none => simp [hs] at hki
      | some s0 =>
        simp only [hs, Option.map_some, Option.some.injEq] at hki
        cases c <;> simp [ck] at hki
        cases hvi
        rfl
    · rw [List.getElem?_eq_none (by omega), List.getElem?_eq_none (by omega)]; rfl
  refine ⟨h1, ?_⟩
  rw [h1, List.map_map] at hk
  exact hk
theorem eqVs_lits : ∀ (X Y : List Value), kdAs (X.map .lit) (Y.map .lit) = true → eqVs X Y = some (eqAs (X.map .lit) (Y.map .lit))
  | [], [], _ => rfl
  | x :: X, y :: Y, h => by
    simp only [List.map_cons, kdAs, Bool.and_eq_true] at h
    have ih := eqVs_lits X Y h.2
    simp only [List.map_cons, eqAs, eqVs, ih]
    have h1 := h.1
    cases x <;> cases y <;> simp_all [kdA, eqA, pairEq]
  | [], _ :: _, h => by simp [kdAs] at h
  | _ :: _, [], h => by simp [kdAs] at h
theorem kdAs_lits : ∀ {as bs : List AV}, kdAs as bs = true → as.length = bs.length ∧ (∀ sh : List CK, as.map ck = sh.map some → bs.map ck = sh.map some)
  | [], [], _ => ⟨rfl, fun sh h => h⟩
  | a :: as, b :: bs, h => by
    simp only [kdAs, Bool.and_eq_true] at h
    obtain ⟨h1, h2⟩ := kdAs_lits h.2
    refine ⟨by simp [h1], fun sh hs => ?_⟩
    cases sh with
    | nil => simp at hs
    | cons s0 sh =>
      simp only [List.map_cons, List.cons.injEq] at hs ⊢
      refine ⟨?_, h2 sh hs.2⟩
      have := h.1
      cases a <;> cases b <;> simp_all [kdA]
      rename_i v v'
      cases v <;> cases v' <;> simp_all [kdA, ck, ckV]
  | [], _ :: _, h => by simp [kdAs] at h
  | _ :: _, [], h => by simp [kdAs] at h
theorem eqT_spec {t : TypeId} {l : List (Option CK)} (h : eqT P t = some l) : ∃ d sh, P.underlying t = some d ∧ aggD d = true ∧ P.eqGuardType P.depth t = false ∧ eqSh P 12 t = some sh ∧ l = sh.map some := by
  unfold eqT at h
  cases hu : P.underlying t with
  | none => simp [hu] at h
  | some d =>
    simp only [hu] at h
    split at h
    · rename_i hc
      simp only [Bool.and_eq_true, Bool.not_eq_true'] at hc
      obtain ⟨sh, h1, h2⟩ := Option.map_eq_some_iff.1 h
      exact ⟨d, sh, rfl, hc.1, hc.2, h1, h2.symm⟩
    · cases h
theorem eqAgg_sound {t : TypeId} {as bs : List AV} {X Y : List Value} (hX : X.length = as.length) (hY : Y.length = bs.length)
    (vX : ∀ (i : Nat) (c : AV) (u : Value), as[i]? = some c → X[i]? = some u → V w S γ ρ false c u) (vY : ∀ (i : Nat) (c : AV) (u : Value), bs[i]? = some c → Y[i]? = some u → V w S γ ρ false c u)
    (h1 : eqT P t = some (as.map ck)) (h2 : kdAs as bs = true) :
    (Op.equalIn 10000 t (.agg X.toArray) (.agg Y.toArray)).run P w = .ok (eqAs as bs) w ∧ P.eqGuardType P.depth t = false := by
  obtain ⟨d, sh, hu, ha, hg, hs, hl⟩ := eqT_spec h1
  obtain ⟨hab, hsh⟩ := kdAs_lits h2
  obtain ⟨e1, k1⟩ := lits_of hX vX hl
  obtain ⟨e2, k2⟩ := lits_of hY vY (hsh sh hl)
  have := ((eqSh_sound (P := P) w 12 t sh hs 10000 (by omega)).2 ⟨d, hu, ha⟩) X Y _ k1 (eqVs_lits X Y (by rw [← e1, ← e2]; exact h2))
  rw [← e1, ← e2] at this
  exact ⟨this, hg⟩
theorem boolT_spec {t : TypeId} (h : boolT P t = true) : P.underlying t = some .bool := by
  unfold boolT at h
  split at h
  · assumption
  · cases h
theorem beq_bytes (a b : ByteArray) : (a.toList == b.toList) = (a == b) := (beq_toListBytes a b).symm
theorem run_bool_eq (t : TypeId) (xo yo : Operand) (a b : Bool) (hu : P.underlying t = some .bool) :
    (do eqGuard .eql t xo yo (.bool a) (.bool b); binOp .eql t (.bool a) (.bool b) : Sem Value).run P w = .ok (.bool (a == b)) w ∧
    (do eqGuard .neq t xo yo (.bool a) (.bool b); binOp .neq t (.bool a) (.bool b) : Sem Value).run P w = .ok (.bool (a != b)) w := by
  have h : (Op.equalIn 10000 t (.bool a) (.bool b)).run P w = .ok (a == b) w := run_equalIn_bool' w 9999 t a b hu
  have h1 : binOp .eql t (.bool a) (.bool b) = (do let r ← Op.equalIn 10000 t (.bool a) (.bool b); pure (.bool r) : Sem Value) := by simp only [binOp]; rfl
  have h2 : binOp .neq t (.bool a) (.bool b) = (do let r ← Op.equalIn 10000 t (.bool a) (.bool b); pure (.bool (!r)) : Sem Value) := by simp only [binOp]; rfl
  constructor
  · simp only [Sem.run_bind, h1]; simp [eqGuard]; rw [h]; rfl
  · simp only [Sem.run_bind, h2]; simp [eqGuard, bne]; rw [h]; rfl
theorem run_slice_nil {t sz : Nat} (h : elS P t = some sz) (xo yo : Operand) (A : Option Addr) (n c n' c' : Nat) :
    (do eqGuard .eql t xo yo (.slice A n c) (.slice none n' c'); binOp .eql t (.slice A n c) (.slice none n' c') : Sem Value).run P w = .ok (.bool A.isNone) w ∧
    (do eqGuard .neq t xo yo (.slice A n c) (.slice none n' c'); binOp .neq t (.slice A n c) (.slice none n' c') : Sem Value).run P w = .ok (.bool (!A.isNone)) w := by
  obtain ⟨e, hu⟩ : ∃ e, P.underlying t = some (.slice e) := by
    unfold elS at h
    split at h
    · exact ⟨_, by assumption⟩
    · cases h
  have hd : ∀ d : Nat, (Op.equalIn (d + 1) t (.slice A n c) (.slice none n' c')).run P w = .ok A.isNone w := fun d => by cases A <;> simp [Op.equalIn, run_underlying hu]
  have hq := hd 9999
  have h1 : binOp .eql t (.slice A n c) (.slice none n' c') = (do let r ← Op.equalIn 10000 t (.slice A n c) (.slice none n' c'); pure (.bool r) : Sem Value) := by simp only [binOp]; rfl
  have h2 : binOp .neq t (.slice A n c) (.slice none n' c') = (do let r ← Op.equalIn 10000 t (.slice A n c) (.slice none n' c'); pure (.bool (!r)) : Sem Value) := by simp only [binOp]; rfl
  constructor
  · simp only [Sem.run_bind, h1]; simp [eqGuard, hq]
  · simp only [Sem.run_bind, h2]; simp [eqGuard, hq]
theorem rBin_sound {op : BinOp} {t : TypeId} {x y : AV} {ux uy : Value} (xo yo : Operand) (hx : V w S γ ρ false x ux) (hy : V w S γ ρ false y uy) (h : (rBin P op t x y).2) :
    ∃ u, (do eqGuard op t xo yo ux uy; binOp op t ux uy : Sem Value).run P w = .ok u w ∧ V w S γ ρ false (rBin P op t x y).1 u := by
  cases x with
  | lit vx =>
    cases y with
    | lit vy =>
      cases hx; cases hy
      cases ux <;> try (simp [rBin] at h; done)
      case int k a =>
        cases uy <;> try (simp [rBin] at h; done)
        rename_i k' b
        have hg : (eqGuard op t xo yo (.int k a) (.int k' b)).run P w = .ok () w := by cases op <;> simp [eqGuard]
        cases op <;> try (simp [rBin] at h; done)
        all_goals
          simp only [rBin] at h ⊢
          first
          | (subst h
             refine ⟨_, ?_, .lit⟩
             simp only [Sem.run_bind, hg, Result.andThen_ok]
             simp [binOp, Op.intArith, Op.intCmp]; done)
          | (obtain ⟨rfl, hb⟩ := h
             refine ⟨_, ?_, .lit⟩
             simp only [Sem.run_bind, hg, Result.andThen_ok]
             simp [binOp, Op.intDiv, hb]; done)
          | (subst h
             refine ⟨_, ?_, .lit⟩
             simp only [Sem.run_bind, hg, Result.andThen_ok]
             simp [binOp, Op.intBits, bAnd, bOr]; done)
          | (refine ⟨_, ?_, .lit⟩
             simp only [Sem.run_bind, hg, Result.andThen_ok]
             simp [binOp, Op.shift, Int.not_lt.2 h]; done)
      case bool a =>
        cases uy <;> try (simp [rBin] at h; done)
        rename_i b
        cases op <;> try (simp [rBin] at h; done)
        all_goals
          simp only [rBin] at h ⊢
          have hu := boolT_spec h
          refine ⟨_, ?_, .lit⟩
          first
          | exact (run_bool_eq t xo yo a b hu).1
          | exact (run_bool_eq t xo yo a b hu).2
      case string a =>
        cases uy <;> try (simp [rBin] at h; done)
        rename_i b
        cases op <;> try (simp [rBin] at h; done)
        all_goals
          simp only [rBin] at h ⊢
          refine ⟨_, ?_, .lit⟩
          simp [eqGuard, binOp, Op.stringOp, beq_bytes]
      case slice A n c =>
        cases uy <;> try (simp [rBin] at h; done)
        rename_i B n' c'
        cases B <;> try (simp [rBin] at h; done)
        cases op <;> try (simp [rBin] at h; done)
        all_goals
          simp only [rBin] at h ⊢
          obtain ⟨sz, hs⟩ := Option.isSome_iff_exists.1 h
          refine ⟨_, ?_, .lit⟩
          first
          | exact (run_slice_nil hs xo yo A n c n' c').1
          | exact (run_slice_nil hs xo yo A n c n' c').2
    | _ => cases vx <;> simp [rBin] at h
  | ro sz0 xs =>
    cases xs with
    | nil => cases y <;> simp [rBin] at h
    | cons r xs =>
      cases y <;> try (simp [rBin] at h; done)
      rename_i vy
      cases hy
      cases uy <;> try (simp [rBin] at h; done)
      rename_i B n' c'
      cases B <;> try (simp [rBin] at h; done)
      cases hx with
      | ro U hn hc hm hz hA hv =>
        rename_i A n c
        obtain ⟨ad, rfl, _⟩ := hA (by simp)
        cases op <;> try (simp [rBin] at h; done)
        all_goals
          simp only [rBin] at h ⊢
          obtain ⟨sz, hs⟩ := Option.isSome_iff_exists.1 h
          refine ⟨_, ?_, .lit⟩
          first
          | exact (run_slice_nil hs xo yo (some ad) n c n' c').1
          | exact (run_slice_nil hs xo yo (some ad) n c n' c').2
  | agg as =>
    cases y with
    | agg bs =>
      cases hx with
      | agg hX vX =>
        cases hy with
        | agg hY vY =>
          cases op <;> try (simp [rBin] at h; done)
          all_goals
            simp only [rBin] at h ⊢
            obtain ⟨h1, h2⟩ := eqAgg_sound hX hY vX vY h.1 h.2
            refine ⟨_, ?_, .lit⟩
            simp only [Sem.run_bind, run_eqGuard_agg w _ t xo yo _ _ h2, Result.andThen_ok]
            first
            | rw [run_eql_struct w t, h1]; rfl
            | rw [run_neq_struct w t, h1]; rfl
    | _ => simp [rBin] at h
  | _ => simp [rBin] at h
theorem rUn_sound {op : UnOp} {x : AV} {ux : Value} (hx : V w S γ ρ false x ux) (h : (rUn op x).2) :
    ∃ u, (Op.unary op ux).run P w = .ok u w ∧ V w S γ ρ false (rUn op x).1 u := by
  cases x <;> try (simp [rUn] at h; done)
  rename_i v
  cases hx
  cases ux <;> try (simp [rUn] at h; done)
  all_goals
    cases op <;> try (simp [rUn] at h; done)
    refine ⟨_, ?_, .lit⟩
    simp [Op.unary, Op.intArith]
theorem rConv_sound {src dst : TypeId} {x : AV} {ux : Value} (hx : V w S γ ρ false x ux) (h : (rConv P src dst x).2) :
    ∃ u, (convert src dst ux).run P w = .ok u w ∧ V w S γ ρ false (rConv P src dst x).1 u := by
  cases x <;> try (simp [rConv] at h; done)
  rename_i v
  cases hx
  cases ux <;> try (simp [rConv] at h; done)
  rename_i k n
  simp only [rConv] at h ⊢
  cases hc : cvT P src dst with
  | none => simp [hc] at h
  | some k' =>
    simp only [hc]
    refine ⟨_, ?_, .lit⟩
    unfold cvT at hc
    cases h1 : P.underlying src with
    | none => simp [h1] at hc
    | some d1 =>
      cases h2 : P.underlying dst with
      | none => simp [h1, h2] at hc
      | some d2 =>
        rw [h1, h2] at hc
        cases d2 <;> simp at hc
        subst hc
        simp [convert, run_underlying h1, run_underlying h2, Conv.intToInt]
theorem fldO_spec {s f o : Nat} (h : fldO P s f = some o) : ∃ fs fd i, P.underlying s = some (.struct fs) ∧ fs[f]? = some fd ∧ P.info? fd.type = some i ∧ i.size ≠ 0 ∧ fd.offset = o := by
  unfold fldO at h
  split at h
  · rename_i fs hu
    split at h
    · rename_i fd hf
      split at h
      · rename_i i hi
        split at h
        · cases h
        · rename_i hne; cases h; exact ⟨fs, fd, i, hu, hf, hi, hne, rfl⟩
      · cases h
    · cases h
  · cases h
theorem run_fieldAt {s f o : Nat} (h : fldO P s f = some o) (a : Addr) : (Instr.fieldAt s (.pointer (some a)) f).run P w = .ok (.pointer (some (a.add o))) w := by
  obtain ⟨fs, fd, i, hu, hf, hi, hne, rfl⟩ := fldO_spec h
  simp [Instr.fieldAt, run_underlying hu, hf, Instr.sureAddr, fieldPlace, sizeOf, typeInfo, hi, hne]
theorem V.rop_add {b : Bool} {cs : List AV} {ad : Addr} {k : Nat} (h : V w S γ ρ b (.rop cs) (.pointer (some ad))) : V w S γ ρ b (.rop (cs.drop k)) (.pointer (some (ad.add k))) := by
  cases h with
  | rop U hS hc hv =>
    refine .rop (fun j => U (k + j)) (by unfold Addr.add; split <;> exact hS) (fun j x hj => ?_) (fun j x hj => ?_)
    · rw [List.getElem?_drop] at hj; rw [add_add]; exact hc _ x hj
    · rw [List.getElem?_drop] at hj; exact hv _ x hj
theorem rFA_sound {s f : Nat} {x : AV} {ux : Value} (hx : V w S γ ρ false x ux) (h : (rFA (fldO P s f) x).2) :
    ∃ u, (Instr.fieldAt s ux f).run P w = .ok u w ∧ V w S γ ρ false (rFA (fldO P s f) x).1 u := by
  cases ho : fldO P s f with
  | none => rw [ho] at h; cases x <;> simp [rFA] at h
  | some o =>
    rw [ho] at h
    cases x <;> try (simp [rFA] at h; done)
    case rop cs =>
      cases hx with
      | rop U hS hc hv => exact ⟨_, run_fieldAt ho _, by simp only [rFA]; exact V.rop_add (.rop U hS hc hv)⟩
    case rp r sz i g =>
      cases hx with
      | rp hρ => exact ⟨_, run_fieldAt ho _, by simp only [rFA]; rw [addr_add, Nat.add_assoc]; exact .rp hρ⟩
    case bp b off =>
      cases hx with
      | bp hγ => exact ⟨_, run_fieldAt ho _, by simp only [rFA]; rw [addr_add]; exact .bp hγ⟩
theorem elS_spec {t sz : Nat} (h : elS P t = some sz) : ∃ e, P.underlying t = some (.slice e) ∧ (∀ w : World, (sizeOf e).run P w = .ok sz w) ∧ ∃ i, P.info? e = some i ∧ i.size = sz := by
  unfold elS at h
  split at h
  · rename_i e hu
    obtain ⟨i, hi, rfl⟩ := Option.map_eq_some_iff.1 h
    exact ⟨e, hu, fun w => by simp [sizeOf, typeInfo, hi], i, hi, rfl⟩
  · cases h
theorem arS_spec {t : Nat} {p : Nat × Nat} (h : arS P t = some p) : ∃ e, P.underlying t = some (.array p.1 e) ∧ (∀ w : World, (sizeOf e).run P w = .ok p.2 w) := by
  unfold arS at h
  split at h
  · rename_i n e hu
    obtain ⟨i, hi, rfl⟩ := Option.map_eq_some_iff.1 h
    exact ⟨e, hu, fun w => by simp [sizeOf, typeInfo, hi]⟩
  · cases h
theorem run_indexAt_sl {t sz : Nat} (h : elS P t = some sz) (a : Addr) (n c : Nat) (k : IntKind) (i : Int) (h0 : 0 ≤ i) (h1 : i < n) :
    (Instr.indexAt t (.slice (some a) n c) (.int k i)).run P w = .ok (.pointer (some (a.add (i.toNat * sz)))) w := by
  obtain ⟨e, hu, hs, _⟩ := elS_spec h
  simp [Instr.indexAt, asIntOf, run_underlying hu, h0, h1, hs]
theorem run_indexAt_ar {t : Nat} {p : Nat × Nat} (h : arS P t = some p) (a : Addr) (k : IntKind) (i : Int) (h0 : 0 ≤ i) (h1 : i < p.1) :
    (Instr.indexAt t (.pointer (some a)) (.int k i)).run P w = .ok (.pointer (some (a.add (i.toNat * p.2)))) w := by
  obtain ⟨e, hu, hs⟩ := arS_spec h
  simp [Instr.indexAt, asIntOf, run_underlying hu, h0, h1, hs, Instr.sureAddr]
theorem rIA_sound {t : TypeId} {x y : AV} {ux uy : Value} (hx : V w S γ ρ false x ux) (hy : V w S γ ρ false y uy) (h : (rIA P t x y).2) :
    ∃ u, (Instr.indexAt t ux uy).run P w = .ok u w ∧ V w S γ ρ false (rIA P t x y).1 u := by
  have hlit : ∃ k i, y = .lit (.int k i) := by
    cases x <;> cases y <;> try (simp [rIA] at h; done)
    all_goals
      rename_i v
      cases v <;> simp [rIA] at h <;> exact ⟨_, _, rfl⟩
  obtain ⟨k, i, rfl⟩ := hlit
  cases hy
  cases x <;> try (simp [rIA] at h; done)
  case ro sz xs =>
    simp only [rIA] at h ⊢
    obtain ⟨he, h0, h1⟩ := h
    cases hx with
    | ro U hn hc hm hz hA hv =>
      rename_i A n c
      subst hn
      have hi : i.toNat < xs.length := by omega
      obtain ⟨ad, rfl, hS, hcell⟩ := hA (by intro hne; subst hne; simp at hi)
      refine ⟨_, run_indexAt_sl he ad _ _ k i h0 h1, ?_⟩
      have hr : xs[i.toNat]? = some (xs.getD i.toNat []) := by rw [List.getD_eq_getElem?_getD, List.getElem?_eq_getElem hi]; rfl
      refine .rop (fun j => U i.toNat j) (by unfold Addr.add; split <;> exact hS) (fun j x hj => ?_) (fun j x hj => hv _ _ j x hr hj)
      rw [add_add]
      exact (hcell _ _ j x hr hj).1
  case own r sz off len =>
    simp only [rIA] at h ⊢
    obtain ⟨he, h0, h1⟩ := h
    cases hx with
    | own hρ hh hlen hl hm hA =>
      obtain ⟨g, rfl, rfl⟩ := hA (by omega)
      refine ⟨_, run_indexAt_sl he _ _ _ k i h0 h1, ?_⟩
      rw [addr_add]
      have := V.rp (w := w) (S := S) (γ := γ) (sz := sz) (i := off + i.toNat) (f := 0) hρ
      rw [Nat.add_mul, Nat.add_zero] at this
      exact this
  case bp b off =>
    simp only [rIA] at h ⊢
    cases ha : arS P t with
    | none => simp [ha] at h
    | some p =>
      simp only [ha] at h ⊢
      cases hx with
      | bp hγ =>
        refine ⟨_, run_indexAt_ar ha _ k i h.1 h.2, ?_⟩
        rw [addr_add]; exact .bp hγ
  case rop cs =>
    simp only [rIA] at h ⊢
    cases ha : arS P t with
    | none => simp [ha] at h
    | some p =>
      simp only [ha] at h ⊢
      cases hx with
      | rop U hS hc hv => exact ⟨_, run_indexAt_ar ha _ k i h.1 h.2, V.rop_add (.rop U hS hc hv)⟩
  case rp r sz j f =>
    simp only [rIA] at h ⊢
    cases ha : arS P t with
    | none => simp [ha] at h
    | some p =>
      simp only [ha] at h ⊢
      cases hx with
      | rp hρ =>
        refine ⟨_, run_indexAt_ar ha _ k i h.1 h.2, ?_⟩
        rw [addr_add, Nat.add_assoc]; exact .rp hρ
end Go.AL
namespace Go.AL
open Go.RowKit
set_option linter.unusedSimpArgs false
set_option linter.unusedVariables false
variable {P : Program} {w : World} {S : Nat → Prop} {γ : List Nat} {ρ : List Value}
theorem run_sl {t e sz : Nat} (hu : P.underlying t = some (.slice e)) (hs : ∀ w : World, (sizeOf e).run P w = .ok sz w) (A : Option Addr) (n c : Nat) (lo hi mx : Option Value) (l h m : Nat)
    (hlo : lo = none ∧ l = 0 ∨ ∃ k, lo = some (.int k l)) (hhi : hi = none ∧ h = n ∨ ∃ k, hi = some (.int k h)) (hmx : mx = none ∧ m = c ∨ (∃ k, mx = some (.int k m)) ∧ hi.isSome = true)
    (h1 : l ≤ h) (h2 : h ≤ m) (h3 : m ≤ c) :
    (Instr.sliceAt t (.slice A n c) lo hi mx).run P w = .ok (.slice (if m = l then A else A.map (·.add (l * sz))) (h - l) (m - l)) w := by
  have bl : ∀ (k : IntKind) (code : BoundsCode) (w : World), (Instr.sliceBound (.int k l) h code).run P w = .ok l w := fun k code w => by
    rw [run_sliceBound w k l h code (by omega) (by omega)]; simp
  have bh : ∀ (k : IntKind) (code : BoundsCode) (w : World), (Instr.sliceBound (.int k h) m code).run P w = .ok h w := fun k code w => by
    rw [run_sliceBound w k h m code (by omega) (by omega)]; simp
  have bm : ∀ (k : IntKind) (code : BoundsCode) (w : World), (Instr.sliceBound (.int k m) c code).run P w = .ok m w := fun k code w => by
    rw [run_sliceBound w k m c code (by omega) (by omega)]; simp
  simp only [Instr.sliceAt, Sem.run_bind, run_underlying hu, Result.andThen_ok, Instr.slice, hs]
  have hb : (Instr.sliceBounds true n c lo hi mx).run P w = .ok (l, h, m) w := by
    rcases hlo with ⟨rfl, rfl⟩ | ⟨kl, rfl⟩ <;> rcases hhi with ⟨rfl, rfl⟩ | ⟨kh, rfl⟩ <;> rcases hmx with ⟨rfl, rfl⟩ | ⟨⟨km, rfl⟩, hm⟩ <;>
      first
      | (simp only [Instr.sliceBounds, Sem.run_bind, bl, bh, bm, Result.andThen_ok, Sem.run_pure]; done)
      | (simp at hm)
  rw [hb]
  simp
theorem bnd_spec {d : Nat} {x : Option AV} {ux : Option Value} {i : Int} (hx : x = none ∧ ux = none ∨ ∃ a u, x = some a ∧ ux = some u ∧ V w S γ ρ false a u) (h : bnd d x = some i) (h0 : 0 ≤ i) :
    (ux = none ∧ x = none ∧ i.toNat = d) ∨ ∃ k, ux = some (.int k i.toNat) ∧ x.isSome = true := by
  rcases hx with ⟨rfl, rfl⟩ | ⟨a, u, rfl, rfl, hv⟩
  · simp only [bnd, Option.some.injEq] at h; subst h; exact .inl ⟨rfl, rfl, by simp⟩
  · cases a <;> try (simp [bnd] at h; done)
    rename_i v
    cases hv
    cases u <;> try (simp [bnd] at h; done)
    rename_i k n
    simp only [bnd, Option.some.injEq] at h
    subst h
    exact .inr ⟨k, by rw [Int.toNat_of_nonneg h0], rfl⟩
def OV (w : World) (S : Nat → Prop) (γ : List Nat) (ρ : List Value) (x : Option AV) (ux : Option Value) : Prop := x = none ∧ ux = none ∨ ∃ a u, x = some a ∧ ux = some u ∧ V w S γ ρ false a u
theorem strT_spec {t : TypeId} (h : rSl.strT P t = true) : P.underlying t = some .string := by
  unfold rSl.strT at h
  split at h
  · assumption
  · cases h
theorem rSl_sound {t : TypeId} {x : AV} {ux : Value} {lo hi mx : Option AV} {ul uh um : Option Value} (hx : V w S γ ρ false x ux) (hl : OV w S γ ρ lo ul) (hh : OV w S γ ρ hi uh) (hm : OV w S γ ρ mx um)
    (h : (rSl P t x lo hi mx).2) : ∃ u, (Instr.sliceAt t ux ul uh um).run P w = .ok u w ∧ V w S γ ρ false (rSl P t x lo hi mx).1 u := by
  cases x <;> try (simp [rSl] at h; done)
  case lit v =>
    cases hx
    cases ux <;> try (simp [rSl] at h; done)
    case slice A n c =>
      simp only [rSl] at h ⊢
      cases e1 : bnd 0 lo with
      | none => simp [e1] at h
      | some l =>
        cases e2 : bnd n hi with
        | none => simp [e1, e2] at h
        | some k =>
          cases mx with
          | some m => simp [e1, e2] at h
          | none =>
            cases he : elS P t with
            | none => simp [e1, e2, he] at h
            | some sz =>
              simp only [e1, e2, he] at h ⊢
              obtain ⟨h0, h1, h2⟩ := h
              obtain ⟨e, hu, hs, _⟩ := elS_spec he
              have hum : um = none := by rcases hm with ⟨_, e⟩ | ⟨a, u, e, _⟩; exact e; cases e
              subst hum
              have hrun := run_sl (w := w) hu hs A n c ul uh none l.toNat k.toNat c
                (by rcases bnd_spec hl e1 h0 with ⟨rfl, _, h5⟩ | ⟨k1, rfl, _⟩; exact .inl ⟨rfl, h5⟩; exact .inr ⟨k1, rfl⟩)
                (by rcases bnd_spec hh e2 (by omega) with ⟨rfl, _, h5⟩ | ⟨k1, rfl, _⟩; exact .inl ⟨rfl, h5⟩; exact .inr ⟨k1, rfl⟩) (.inl ⟨rfl, rfl⟩) (by omega) (by omega) (Nat.le_refl _)
              exact ⟨_, hrun, .lit⟩
    rename_i s
    simp only [rSl] at h ⊢
    cases e1 : bnd 0 lo with
    | none => simp [e1] at h
    | some l =>
      cases e2 : bnd s.size hi with
      | none => simp [e1, e2] at h
      | some k =>
        cases mx with
        | some m => simp [e1, e2] at h
        | none =>
          simp only [e1, e2] at h ⊢
          obtain ⟨ht, h0, h1, h2⟩ := h
          have hu := strT_spec ht
          refine ⟨_, ?_, .lit⟩
          have hum : um = none := by rcases hm with ⟨_, e⟩ | ⟨a, u, e, _⟩; exact e; cases e
          subst hum
          rw [run_sliceAt_string w t _ _ _ _ hu]
          have bl : ∀ (kk : IntKind) (code : BoundsCode) (w : World), (Instr.sliceBound (.int kk (l.toNat : Nat)) k.toNat code).run P w = .ok l.toNat w := fun kk code w => by
            rw [run_sliceBound w kk _ _ code (by omega) (by omega), Int.toNat_natCast]
          have bh : ∀ (kk : IntKind) (code : BoundsCode) (w : World), (Instr.sliceBound (.int kk (k.toNat : Nat)) s.size code).run P w = .ok k.toNat w := fun kk code w => by
            rw [run_sliceBound w kk _ _ code (by omega) (by omega), Int.toNat_natCast]
          have hb : (Instr.sliceBounds false s.size s.size ul uh none).run P w = .ok (l.toNat, k.toNat, s.size) w := by
            rcases bnd_spec hl e1 h0 with ⟨rfl, _, h3⟩ | ⟨k1, rfl, _⟩ <;> rcases bnd_spec hh e2 (by omega) with ⟨rfl, _, h4⟩ | ⟨k2, rfl, _⟩ <;>
              simp only [Instr.sliceBounds, Sem.run_bind, bl, bh, Result.andThen_ok, Sem.run_pure]
            · rw [h3, h4]
            · rw [h3]
            · rw [← h4, bl]; rfl
          simp only [Instr.slice, Sem.run_bind, run_underlying hu, Result.andThen_ok]
          simp [hb]
  case ro sz xs =>
    simp only [rSl] at h ⊢
    cases e1 : bnd 0 lo with
    | none => simp [e1] at h
    | some l =>
      cases e2 : bnd xs.length hi with
      | none => simp [e1, e2] at h
      | some k =>
        cases e3 : bnd xs.length mx with
        | none => simp [e1, e2, e3] at h
        | some m =>
          simp only [e1, e2, e3] at h ⊢
          obtain ⟨he, h0, h1, h2, h3, h4⟩ := h
          obtain ⟨e, hu, hs, _⟩ := elS_spec he
          cases hx with
          | ro U hn hc hmx hz hA hv =>
            rename_i A n c
            subst hn
            obtain ⟨M, hM, hMm, hMc⟩ : ∃ M : Nat, (um = none ∧ M = c ∨ (∃ k, um = some (.int k (M : Nat))) ∧ uh.isSome = true) ∧ k.toNat ≤ M ∧ M ≤ c := by
              rcases bnd_spec hm e3 (by omega) with ⟨rfl, _, h5⟩ | ⟨k3, rfl, h6⟩
              · exact ⟨c, .inl ⟨rfl, rfl⟩, by omega, Nat.le_refl _⟩
              · refine ⟨m.toNat, .inr ⟨⟨k3, rfl⟩, ?_⟩, by omega, by omega⟩
                have := h4 h6
                rcases hh with ⟨rfl, _⟩ | ⟨a, u, rfl, rfl, _⟩
                · cases this
                · rfl
            have hrun := run_sl (w := w) hu hs A xs.length c ul uh um l.toNat k.toNat M
              (by rcases bnd_spec hl e1 h0 with ⟨rfl, _, h5⟩ | ⟨k1, rfl, _⟩; exact .inl ⟨rfl, h5⟩; exact .inr ⟨k1, rfl⟩)
              (by rcases bnd_spec hh e2 (by omega) with ⟨rfl, _, h5⟩ | ⟨k1, rfl, _⟩; exact .inl ⟨rfl, h5⟩; exact .inr ⟨k1, rfl⟩) hM (by omega) hMm hMc
            refine ⟨_, hrun, .ro (fun i j => U (l.toNat + i) j) (by simp; omega) (by omega) (by omega) (fun r hr => hz r (List.mem_of_mem_drop (List.mem_of_mem_take hr))) (fun hne => ?_) (fun i r j x hi hj => ?_)⟩
            · have hlt : l.toNat < k.toNat := by
                rcases Nat.lt_or_ge l.toNat k.toNat with h | h
                · exact h
                · exact absurd (by simp; omega) hne
              obtain ⟨ad, rfl, hS, hcell⟩ := hA (by intro hx; subst hx; simp at h3; omega)
              rw [if_neg (by omega)]
              refine ⟨_, rfl, by unfold Addr.add; split <;> exact hS, fun i r j x hi hj => ?_⟩
              rw [List.getElem?_take] at hi
              split at hi
              · rw [List.getElem?_drop] at hi
                have := hcell _ _ _ _ hi hj
                refine ⟨?_, this.2⟩
                rw [add_add]
                rw [← this.1]
                congr 2
                rw [Nat.add_mul]; omega
              · cases hi
            · rw [List.getElem?_take] at hi
              split at hi
              · rw [List.getElem?_drop] at hi; exact hv _ _ _ _ hi hj
              · cases hi
  case own r sz off len =>
    simp only [rSl] at h ⊢
    cases e1 : bnd 0 lo with
    | none => simp [e1] at h
    | some l =>
      cases e2 : bnd len hi with
      | none => simp [e1, e2] at h
      | some k =>
        cases e3 : bnd len mx with
        | none => simp [e1, e2, e3] at h
        | some m =>
          simp only [e1, e2, e3] at h ⊢
          obtain ⟨he, h0, h1, h2, h3, h4⟩ := h
          obtain ⟨e, hu, hs, _⟩ := elS_spec he
          cases hx with
          | own hρ hh0 hlen hl1 hm' hA =>
            rename_i A c A0 n0 c0
            obtain ⟨M, hM, hMm, hMc, hM0⟩ : ∃ M : Nat, (um = none ∧ M = c ∨ (∃ k, um = some (.int k (M : Nat))) ∧ uh.isSome = true) ∧ k.toNat ≤ M ∧ M ≤ c ∧ (off + l.toNat = 0 → M = c) := by
              rcases bnd_spec hm e3 (by omega) with ⟨rfl, _, h5⟩ | ⟨k3, rfl, h6⟩
              · exact ⟨c, .inl ⟨rfl, rfl⟩, by omega, Nat.le_refl _, fun _ => rfl⟩
              · obtain ⟨h7, h8⟩ := h4 h6
                refine ⟨m.toNat, .inr ⟨⟨k3, rfl⟩, ?_⟩, by omega, by omega, fun h => absurd h h8⟩
                rcases hh with ⟨rfl, _⟩ | ⟨a, u, rfl, rfl, _⟩
                · cases h7
                · rfl
            have hrun := run_sl (w := w) hu hs A len c ul uh um l.toNat k.toNat M
              (by rcases bnd_spec hl e1 h0 with ⟨rfl, _, h5⟩ | ⟨k1, rfl, _⟩; exact .inl ⟨rfl, h5⟩; exact .inr ⟨k1, rfl⟩)
              (by rcases bnd_spec hh e2 (by omega) with ⟨rfl, _, h5⟩ | ⟨k1, rfl, _⟩; exact .inl ⟨rfl, h5⟩; exact .inr ⟨k1, rfl⟩) hM (by omega) hMm hMc
            refine ⟨_, hrun, .own hρ (fun h => ?_) (by omega) (by omega) (by omega) (fun hlt => ?_)⟩
            · obtain ⟨rfl, rfl⟩ := hh0 (by omega)
              have hl0 : l.toNat = 0 := by omega
              refine ⟨?_, by rw [hM0 h, hl0, Nat.sub_zero]⟩
              rw [hl0]
              split
              · rfl
              · cases A with
                | none => rfl
                | some ad => simp [addr_add0]
            · obtain ⟨g, rfl, rfl⟩ := hA (by omega)
              rw [if_neg (by omega)]
              exact ⟨g, rfl, by simp [addr_add, Nat.add_mul]⟩
theorem rLen_sound {t ty : TypeId} {x : AV} {ux : Value} (hx : V w S γ ρ false x ux) (h : (rLen P t x).2) :
    ∃ u, (Builtin.len_ #[t] ty #[ux]).run P w = .ok u w ∧ V w S γ ρ false (rLen P t x).1 u := by
  cases x <;> try (simp [rLen] at h; done)
  case lit v =>
    cases hx
    cases ux <;> try (simp [rLen] at h; done)
    · simp only [rLen] at h ⊢
      refine ⟨_, ?_, .lit⟩
      simp [Builtin.len_, run_underlying (strT_spec h), goInt]
    · simp only [rLen] at h ⊢
      obtain ⟨sz, hs⟩ := Option.isSome_iff_exists.1 h
      obtain ⟨e, hu, _⟩ := elS_spec hs
      refine ⟨_, ?_, .lit⟩
      simp [Builtin.len_, run_underlying hu, goInt]
  case ro sz xs =>
    simp only [rLen] at h ⊢
    obtain ⟨sz, hs⟩ := Option.isSome_iff_exists.1 h
    obtain ⟨e, hu, _⟩ := elS_spec hs
    cases hx with
    | ro U hn hc hmx hz hA hv =>
      subst hn
      exact ⟨_, by simp [Builtin.len_, run_underlying hu, goInt], .lit⟩
  case own r sz off len =>
    simp only [rLen] at h ⊢
    obtain ⟨sz, hs⟩ := Option.isSome_iff_exists.1 h
    obtain ⟨e, hu, _⟩ := elS_spec hs
    cases hx with
    | own hρ hh0 hlen hl1 hm' hA => exact ⟨_, by simp [Builtin.len_, run_underlying hu, goInt], .lit⟩
theorem rEx_sound {x : AV} {ux : Value} {i : Nat} (hx : V w S γ ρ false x ux) (h : (rEx x i).2) :
    ∃ u, (Instr.extract ux i).run P w = .ok u w ∧ V w S γ ρ false (rEx x i).1 u := by
  cases x <;> try (simp [rEx] at h; done)
  simp only [rEx] at h ⊢
  cases hx with
  | tup hl hv =>
    rename_i vs us
    have h1 : us[i]? = some (us[i]'(by omega)) := List.getElem?_eq_getElem _
    refine ⟨us[i]'(by omega), by simp [Instr.extract, h1], hv i _ _ ?_ h1⟩
    rw [List.getD_eq_getElem?_getD, List.getElem?_eq_getElem h]; rfl
/-! #### build -/
theorem splice_length : ∀ (cs : List AV) (k : Nat) (ns : List AV), (splice cs k ns).length = cs.length
  | cs, _, [] => by cases cs <;> simp [splice]
  | [], _, _ :: _ => by simp [splice]
  | c :: cs, 0, n :: ns => by simp [splice, splice_length cs 0 ns]
  | c :: cs, k + 1, n :: ns => by simp [splice, splice_length cs k (n :: ns)]
theorem splice_get : ∀ (cs : List AV) (k : Nat) (ns : List AV) (j : Nat), k + ns.length ≤ cs.length → (splice cs k ns)[j]? = if k ≤ j ∧ j < k + ns.length then ns[j - k]? else cs[j]?
  | cs, k, [], j, _ => by
    rw [if_neg (by simp)]; cases cs <;> simp [splice]
  | [], k, n :: ns, j, h => by simp at h
  | c :: cs, 0, n :: ns, j, h => by
    cases j with
    | zero => simp [splice]
    | succ j =>
      simp only [splice, List.getElem?_cons_succ, List.length_cons, Nat.zero_le, true_and, Nat.zero_add]
      rw [splice_get cs 0 ns j (by simp at h ⊢; omega)]
      by_cases hj : j < ns.length
      · rw [if_pos (by omega), if_pos (by omega)]; rfl
      · rw [if_neg (by omega), if_neg (by omega)]
  | c :: cs, k + 1, n :: ns, j, h => by
    cases j with
    | zero => simp [splice]
    | succ j =>
      simp only [splice, List.getElem?_cons_succ]
      rw [splice_get cs k (n :: ns) j (by simp at h ⊢; omega)]
      by_cases hj : k ≤ j ∧ j < k + (n :: ns).length
      · rw [if_pos hj, if_pos (by omega)]; congr 1; omega
      · rw [if_neg hj, if_neg (by omega)]
theorem acells_sound {b : Bool} {v : AV} {u : Value} {cs : List AV} (hv : V w S γ ρ b v u) (h : acells v = some cs) :
    u.cells.size = cs.length ∧ ∀ (i : Nat) (c : AV) (x : Value), cs[i]? = some c → u.cells[i]? = some x → V w S γ ρ b c x := by
  have one : ∀ (v' : AV), V w S γ ρ b v' u → v'.one = true → cs = [v'] → u.cells.size = cs.length ∧ ∀ (i : Nat) (c : AV) (x : Value), cs[i]? = some c → u.cells[i]? = some x → V w S γ ρ b c x := by
    intro v' hv' h1 e
    have hu : u.cells = #[u] := by
      have := hv'.one h1
      cases u <;> simp_all [Value.cells, Value.oneCell']
    subst e
    rw [hu]
    refine ⟨rfl, fun i c x h2 h3 => ?_⟩
    cases i with
    | zero => simp at h2 h3; subst h2; subst h3; exact hv'
    | succ i => simp at h2
  cases v <;> simp only [acells] at h <;> try (cases h; done)
  case lit x =>
    split at h
    · rename_i h1; cases h; exact one _ hv h1 rfl
    · cases h
  case agg cs' =>
    cases h
    cases hv with
    | agg hl h => exact ⟨by simp [Value.cells, hl], fun i c x h1 h2 => h i c x h1 (by simpa [Value.cells] using h2)⟩
  all_goals (cases h; exact one _ hv rfl rfl)
theorem foldl_set (off : Nat) : ∀ (vs : List Value) (k : Nat) (cs : Array Value), ((vs.zipIdx k).foldl (fun cs (p : Value × Nat) => cs.setIfInBounds (off + p.2) p.1) cs).size = cs.size ∧
    ∀ j, ((vs.zipIdx k).foldl (fun cs (p : Value × Nat) => cs.setIfInBounds (off + p.2) p.1) cs)[j]? = if off + k ≤ j ∧ j < off + k + vs.length ∧ j < cs.size then vs[j - (off + k)]? else cs[j]?
  | [], k, cs => ⟨rfl, fun j => by rw [if_neg (by simp; omega)]; rfl⟩
  | v :: vs, k, cs => by
    simp only [List.zipIdx_cons, List.foldl_cons]
    obtain ⟨h1, h2⟩ := foldl_set off vs (k + 1) (cs.setIfInBounds (off + k) v)
    refine ⟨by rw [h1]; simp, fun j => ?_⟩
    rw [h2, Array.size_setIfInBounds]
    by_cases hj : j = off + k
    · subst hj
      rw [if_neg (by omega)]
      by_cases hs : off + k < cs.size
      · rw [if_pos ⟨by omega, by simp, hs⟩]; simp [hs]
      · rw [if_neg (by omega), Array.getElem?_eq_none (by simp; omega), Array.getElem?_eq_none (by omega)]
    · by_cases hin : off + (k + 1) ≤ j ∧ j < off + (k + 1) + vs.length ∧ j < cs.size
      · rw [if_pos hin, if_pos ⟨by omega, by simp; omega, hin.2.2⟩]
        rw [show j - (off + k) = (j - (off + (k + 1))) + 1 by omega]; simp
      · rw [if_neg hin, if_neg (by simp; omega)]
        rw [Array.getElem?_setIfInBounds_ne (by omega)]
theorem fillA_sound {b : Bool} (pl : List (Nat × Nat)) (place : Nat → Option (Nat × Nat)) (hpl : ∀ (i : Nat) (p : Nat × Nat), pl[i]? = some p → place i = some p) : ∀ (parts : List (Nat × AV)) (us : List (Nat × Value)) (cells : List AV) (uc : Array Value) (r : List AV),
    us.length = parts.length → (∀ (i : Nat) (p : Nat × AV) (q : Nat × Value), parts[i]? = some p → us[i]? = some q → p.1 = q.1 ∧ V w S γ ρ b p.2 q.2) →
    uc.size = cells.length → (∀ (i : Nat) (c : AV) (x : Value), cells[i]? = some c → uc[i]? = some x → V w S γ ρ b c x) → fillA pl cells parts = some r →
    ∃ ur, Instr.fill place uc us = some ur ∧ ur.size = r.length ∧ ∀ (i : Nat) (c : AV) (x : Value), r[i]? = some c → ur[i]? = some x → V w S γ ρ b c x
  | [], us, cells, uc, r, hl, hp, hs, hc, h => by
    have : us = [] := List.eq_nil_of_length_eq_zero (by simpa using hl)
    subst this
    simp only [fillA, Option.some.injEq] at h
    subst h
    exact ⟨uc, rfl, hs, hc⟩
  | (i, v) :: parts, us, cells, uc, r, hl, hp, hs, hc, h => by
    match us, hl with
    | (i', u) :: us, hl =>
      obtain ⟨hi, hv⟩ := hp 0 _ _ rfl rfl
      simp only at hi hv
      subst hi
      simp only [fillA] at h
      cases h1 : pl[i]? with
      | none => simp [h1] at h
      | some p =>
        cases h2 : acells v with
        | none => simp [h1, h2] at h
        | some cs =>
          simp only [h1, h2] at h
          split at h
          · rename_i hcond
            obtain ⟨hsz, hv2⟩ := acells_sound hv h2
            obtain ⟨f1, f2⟩ := foldl_set p.1 u.cells.toList 0 uc
            have hzip : u.cells.zipIdx.foldl (fun cs (c, j) => cs.setIfInBounds (p.1 + j) c) uc = (u.cells.toList.zipIdx 0).foldl (fun cs (q : Value × Nat) => cs.setIfInBounds (p.1 + q.2) q.1) uc := by
              rw [← Array.foldl_toList, Array.toList_zipIdx]
            simp only [Instr.fill, hpl i p h1]
            rw [if_neg (by simp; omega), hzip]
            refine fillA_sound pl place hpl parts us _ _ r (by simpa using hl) (fun j a q h3 h4 => hp (j + 1) a q h3 h4) ?_ ?_ h
            · rw [f1, splice_length, hs]
            · intro j c x h3 h4
              rw [splice_get _ _ _ _ (by omega)] at h3
              rw [f2] at h4
              simp only [Nat.add_zero, Array.length_toList] at h4
              by_cases hj : p.1 ≤ j ∧ j < p.1 + cs.length
              · rw [if_pos hj] at h3
                rw [if_pos ⟨hj.1, by omega, by omega⟩] at h4
                exact hv2 _ c x h3 (by simpa using h4)
              · rw [if_neg hj] at h3
                rw [if_neg (by omega)] at h4
                exact hc j c x h3 h4
          · cases h
theorem zeroL_spec {t : TypeId} {z : List Value} (h : zeroL P t = some z) : ∃ i zv, P.info? t = some i ∧ i.zero = some zv ∧ z = zv.cells.toList := by
  unfold zeroL at h
  split at h
  · rename_i i hi
    obtain ⟨zv, h1, h2⟩ := Option.map_eq_some_iff.1 h
    exact ⟨i, zv, hi, h1, h2.symm⟩
  · cases h
theorem rBuild_sound {t : TypeId} {parts : List (Nat × AV)} {us : List (Nat × Value)} (hl : us.length = parts.length)
    (hp : ∀ (i : Nat) (p : Nat × AV) (q : Nat × Value), parts[i]? = some p → us[i]? = some q → p.1 = q.1 ∧ V w S γ ρ false p.2 q.2) (h : (rBuild P t parts).2) :
    ∃ u, (Instr.build t us.toArray).run P w = .ok u w ∧ V w S γ ρ false (rBuild P t parts).1 u := by
  unfold rBuild at h ⊢
  cases hz : zeroL P t with
  | none => simp [hz] at h
  | some z =>
    cases hpl : bldPl P t with
    | none => simp [hz, hpl] at h
    | some pl =>
      simp only [hz, hpl] at h ⊢
      cases hf : fillA pl (z.map .lit) parts with
      | none => simp [hf] at h
      | some cs =>
        simp only [hf]
        obtain ⟨it, zv, hi, hzv, rfl⟩ := zeroL_spec hz
        have hc0 : ∀ (i : Nat) (c : AV) (x : Value), (zv.cells.toList.map AV.lit)[i]? = some c → zv.cells[i]? = some x → V w S γ ρ false c x := by
          intro i c x h1 h2
          rw [List.getElem?_map] at h1
          have : zv.cells.toList[i]? = some x := by simpa using h2
          rw [this] at h1; cases h1; exact .lit
        have fin : ∀ place : Nat → Option (Nat × Nat), (∀ (i : Nat) (p : Nat × Nat), pl[i]? = some p → place i = some p) → P.built t us = Instr.fill place zv.cells us → ∃ u, (Instr.build t us.toArray).run P w = .ok u w ∧ V w S γ ρ false (.agg cs) u := by
          intro place hpl' hb
          obtain ⟨ur, e1, e2, e3⟩ := fillA_sound pl place hpl' parts us _ zv.cells cs hl hp (by simp) hc0 hf
          refine ⟨.agg ur, run_build w t us.toArray ur (by simpa [e1] using hb), ?_⟩
          have := V.agg (w := w) (S := S) (γ := γ) (ρ := ρ) (b := false) (cs := cs) (us := ur.toList) (by simpa using e2) (fun i c x h1 h2 => e3 i c x h1 (by simpa using h2))
          simpa using this
        unfold bldPl at hpl
        rw [hi] at hpl
        cases hu : P.underlying t with
        | none => simp [hu] at hpl
        | some d =>
          rw [hu] at hpl
          cases d <;> try (simp at hpl; done)
          case array n e =>
            simp only at hpl
            obtain ⟨ie, hie, rfl⟩ := Option.map_eq_some_iff.1 hpl
            refine fin (fun i => some (i * ie.size, ie.size)) (fun i p h1 => ?_) (by simp [Program.built, hi, hu, hzv, hie])
            rw [List.getElem?_map] at h1
            obtain ⟨k, h2, rfl⟩ := Option.map_eq_some_iff.1 h1
            rw [List.getElem?_range] at h2
            · cases h2; rfl
            · have := (List.getElem?_eq_some_iff.1 h2).1; simpa using this
          case struct fs =>
            exact fin (fun i => pl.toArray[i]?) (fun i p h1 => by simpa using h1) (by simp only [Program.built, hi, hu, hzv, hpl])
end Go.AL
namespace Go.AL
open Go.RowKit
set_option linter.unusedSimpArgs false
set_option linter.unusedVariables false
variable {P : Program} {w : World} {S : Nat → Prop} {γ : List Nat} {ρ : List Value}
theorem V.lit_eq {b : Bool} {v u : Value} (h : V w S γ ρ b (.lit v) u) : u = v := by cases h; rfl
theorem OV.map {ev : Operand → AV} {rc : Operand → Value} (x : Option Operand) (h : ∀ y, x = some y → V w S γ ρ false (ev y) (rc y)) : OV w S γ ρ (x.map ev) (x.map rc) := by
  cases x with
  | none => exact .inl ⟨rfl, rfl⟩
  | some y => exact .inr ⟨_, _, rfl, rfl, h y rfl⟩
theorem ares_sound {B : Nat} {boxes : List (List AV)} {rows : List (Option Row)} (hr : HR w B S γ ρ boxes rows) {ev : Operand → AV} {rc : Operand → Value} {o : Oper}
    (he : ∀ x ∈ o.op.operands.toList, V w S γ ρ false (ev x) (rc x)) (h : (ares P boxes rows ev o.op).2) :
    ∃ u, (execOp rc o).run P w = .ok (.value u) w ∧ V w S γ ρ false (ares P boxes rows ev o.op).1 u := by
  obtain ⟨dst, op, ty, pos, after, guard⟩ := o
  simp only at he h ⊢
  have lift : ∀ (s : Sem Value) (u : Value), s.run P w = .ok u w → (do pure (.value (← s)) : Sem Next).run P w = .ok (.value u) w := by
    intro s u hs; simp [hs]
  cases op <;> try (simp [ares] at h; done)
  case move x => exact ⟨rc x, by simp [execOp], he x (by simp [Op.operands])⟩
  case assign x => exact ⟨rc x, by simp [execOp], he x (by simp [Op.operands])⟩
  case load t a =>
    obtain ⟨x, h1, h2⟩ := aload_sound hr (he a (by simp [Op.operands])) h
    exact ⟨x, by simp only [execOp]; exact lift _ _ h1, h2⟩
  case binOp op t x y yt =>
    obtain ⟨u, h1, h2⟩ := rBin_sound x y (he x (by simp [Op.operands])) (he y (by simp [Op.operands])) h
    exact ⟨u, by simp only [execOp]; exact lift _ _ h1, h2⟩
  case unOp op t x =>
    obtain ⟨u, h1, h2⟩ := rUn_sound (P := P) (he x (by simp [Op.operands])) h
    exact ⟨u, by simp only [execOp]; exact lift _ _ h1, h2⟩
  case nilCheck x =>
    have hx := he x (by simp [Op.operands])
    have h2 : isPtr (ev x) = true := h
    refine ⟨rc x, ?_, hx⟩
    simp only [execOp]
    revert hx h2
    generalize rc x = u
    generalize ev x = v
    intro hx h2
    cases hx <;> first | (simp [isPtr] at h2; done) | rfl | simp
  case convert s d x =>
    obtain ⟨u, h1, h2⟩ := rConv_sound (he x (by simp [Op.operands])) h
    exact ⟨u, by simp only [execOp]; exact lift _ _ h1, h2⟩
  case fieldAddr s x f =>
    obtain ⟨u, h1, h2⟩ := rFA_sound (he x (by simp [Op.operands])) h
    exact ⟨u, by simp only [execOp]; exact lift _ _ h1, h2⟩
  case indexAddr t x i =>
    obtain ⟨u, h1, h2⟩ := rIA_sound (he x (by simp [Op.operands])) (he i (by simp [Op.operands])) h
    exact ⟨u, by simp only [execOp]; exact lift _ _ h1, h2⟩
  case build t parts =>
    obtain ⟨u, h1, h2⟩ := rBuild_sound (P := P) (w := w) (S := S) (γ := γ) (ρ := ρ) (t := t) (parts := parts.toList.map fun p : Nat × Operand => (p.1, ev p.2)) (us := parts.toList.map fun p : Nat × Operand => (p.1, rc p.2)) (by simp) (by
      intro i p q hp hq
      rw [List.getElem?_map] at hp hq
      obtain ⟨a, ha, rfl⟩ := Option.map_eq_some_iff.1 hp
      rw [ha] at hq; cases hq
      exact ⟨rfl, he _ (by simp only [Op.operands]; simp; exact ⟨a.1, by have := List.mem_of_getElem? ha; simpa using this⟩)⟩) h
    refine ⟨u, ?_, h2⟩
    simp only [execOp]
    refine lift _ _ ?_
    have e : (parts.map fun (i, x) => (i, rc x)) = (parts.toList.map fun p => (p.1, rc p.2)).toArray := by
      apply Array.ext'; simp
    rw [e]; exact h1
  case slice t x lo hi mx =>
    obtain ⟨u, h1, h2⟩ := rSl_sound (he x (by simp [Op.operands])) (OV.map lo fun y e => he y (by subst e; simp [Op.operands])) (OV.map hi fun y e => he y (by subst e; simp [Op.operands]))
      (OV.map mx fun y e => he y (by subst e; simp [Op.operands])) h
    exact ⟨u, by simp only [execOp]; exact lift _ _ h1, h2⟩
  case extract x i =>
    obtain ⟨u, h1, h2⟩ := rEx_sound (P := P) (he x (by simp [Op.operands])) h
    exact ⟨u, by simp only [execOp]; exact lift _ _ h1, h2⟩
  case makeFunc fn f c =>
    simp only [ares] at h ⊢
    split at h
    · rename_i hc hf0
      have hf : f = #[] := Array.eq_empty_of_size_eq_zero hf0
      have hcc : c = #[] := Array.eq_empty_of_size_eq_zero hc
      subst hf; subst hcc
      exact ⟨.func fn #[] #[], by simp [execOp, Instr.makeFunc], .lit⟩
    · rename_i hf0 _
      have hf : f = #[] := Array.eq_empty_of_size_eq_zero hf0
      subst hf
      split at h
      · rename_i g
        refine ⟨.func (.func g) #[] (c.map rc), by simp [execOp, Instr.makeFunc], ?_⟩
        have e : c.map rc = (c.toList.map rc).toArray := by apply Array.ext'; simp
        rw [e]
        simp only []
        refine .fn (by simp) fun i x u h1 h2 => ?_
        rw [List.getElem?_map] at h1 h2
        obtain ⟨y, hy, rfl⟩ := Option.map_eq_some_iff.1 h1
        rw [hy] at h2; cases h2
        exact he y (by simp only [Op.operands]; simpa using List.mem_of_getElem? hy)
      · cases h
    · cases h
  case call c =>
    obtain ⟨callee, args, argTypes⟩ := c
    simp only [ares] at h ⊢
    cases callee <;> try (simp at h; done)
    rename_i b
    simp only at h ⊢
    have hargs : ∀ x ∈ args.toList, V w S γ ρ false (ev x) (rc x) := fun x hx => he x (by simp [Op.operands, Call.operands]; simpa using hx)
    unfold rBi at h ⊢
    split at h
    · rename_i t x ht hx
      obtain ⟨y, hy, rfl⟩ : ∃ y, args.toList = [y] ∧ ev y = x := by
        cases hl : args.toList with
        | nil => simp [hl] at hx
        | cons y l => cases l with
          | nil => exact ⟨y, rfl, by simpa [hl] using hx⟩
          | cons => simp [hl] at hx
      have ha : args = #[y] := by apply Array.ext'; simpa using hy
      have hat : argTypes = #[t] := by apply Array.ext'; simpa using ht
      subst ha; subst hat
      obtain ⟨u, h1, h2⟩ := rLen_sound (P := P) (ty := ty) (hargs y (by simp)) h
      refine ⟨u, ?_, h2⟩
      simp only [execOp, resolve, invoke, Sem.run_bind, Sem.run_pure, Result.andThen_ok, builtin, List.map_toArray, List.map_cons, List.map_nil, h1]
    · rename_i k x k' y hx
      obtain ⟨p, q, hy, h1, h2⟩ : ∃ p q, args.toList = [p, q] ∧ ev p = .lit (.int k x) ∧ ev q = .lit (.int k' y) := by
        cases hl : args.toList with
        | nil => simp [hl] at hx
        | cons y l => cases l with
          | nil => simp [hl] at hx
          | cons z l => cases l with
            | nil => exact ⟨y, z, rfl, by simpa [hl] using hx⟩
            | cons => simp [hl] at hx
      have ha : args = #[p, q] := by apply Array.ext'; simpa using hy
      subst ha
      have v1 := hargs p (by simp); have v2 := hargs q (by simp)
      rw [h1] at v1; rw [h2] at v2
      have e1 : rc p = .int k x := v1.lit_eq
      have e2 : rc q = .int k' y := v2.lit_eq
      refine ⟨_, ?_, .lit⟩
      simp only [execOp, resolve, invoke, Sem.run_bind, Sem.run_pure, Result.andThen_ok, builtin, List.map_toArray, List.map_cons, List.map_nil, e1, e2, run_max_int2 w]
    · rename_i k x k' y hx
      obtain ⟨p, q, hy, h1, h2⟩ : ∃ p q, args.toList = [p, q] ∧ ev p = .lit (.int k x) ∧ ev q = .lit (.int k' y) := by
        cases hl : args.toList with
        | nil => simp [hl] at hx
        | cons y l => cases l with
          | nil => simp [hl] at hx
          | cons z l => cases l with
            | nil => exact ⟨y, z, rfl, by simpa [hl] using hx⟩
            | cons => simp [hl] at hx
      have ha : args = #[p, q] := by apply Array.ext'; simpa using hy
      subst ha
      have v1 := hargs p (by simp); have v2 := hargs q (by simp)
      rw [h1] at v1; rw [h2] at v2
      have e1 : rc p = .int k x := v1.lit_eq
      have e2 : rc q = .int k' y := v2.lit_eq
      refine ⟨_, ?_, .lit⟩
      simp only [execOp, resolve, invoke, Sem.run_bind, Sem.run_pure, Result.andThen_ok, builtin, List.map_toArray, List.map_cons, List.map_nil, e1, e2, run_min_int2 w]
    · cases h
end Go.AL
namespace Go.AL
open Go.RowKit
set_option linter.unusedSimpArgs false
set_option linter.unusedVariables false
/-! ### contracts -/
mutual
def AV.scalar : AV → Bool
  | .lit _ => true
  | .any => true
  | .tup vs => scalarL vs
  | .fn _ vs => scalarL vs
  | .agg vs => scalarL vs
  | .opt _ _ => false
  | .ro _ _ => false
  | .rop _ => false
  | .own _ _ _ _ => false
  | .rp _ _ _ _ => false
  | .bp _ _ => false
def scalarL : List AV → Bool
  | [] => true
  | v :: vs => AV.scalar v && scalarL vs
end
mutual
def AV.noOwn : AV → Bool
  | .own _ _ _ _ => false
  | .tup vs => noOwnL vs
  | .fn _ vs => noOwnL vs
  | .agg vs => noOwnL vs
  | .opt _ _ => true
  | .lit _ => true
  | .any => true
  | .ro _ _ => true
  | .rop _ => true
  | .rp _ _ _ _ => true
  | .bp _ _ => false
def noOwnL : List AV → Bool
  | [] => true
  | v :: vs => AV.noOwn v && noOwnL vs
end
-- what a callee is told of a value: slices of the caller's own are lent as stable ones
mutual
def AV.bor (rows : List (Option Row)) : AV → AV
  | .own r sz off len => match getRow rows r sz with
    | some rw_ => .ro sz ((rw_.elems.drop off).take len)
    | none => .any
  | .tup vs => .tup (borL rows vs)
  | .fn g vs => .fn g (borL rows vs)
  | .agg vs => .agg (borL rows vs)
  | .opt _ _ => .any
  | .rp _ _ _ _ => .any
  | .bp _ _ => .any
  | .lit v => .lit v
  | .any => .any
  | .ro sz xs => .ro sz xs
  | .rop cs => .rop cs
def borL (rows : List (Option Row)) : List AV → List AV
  | [] => []
  | v :: vs => AV.bor rows v :: borL rows vs
end
theorem scalarL_mem : ∀ {vs : List AV}, scalarL vs = true → ∀ v ∈ vs, v.scalar = true
  | [], _, v, hv => by cases hv
  | x :: vs, h, v, hv => by
    simp only [scalarL, Bool.and_eq_true] at h
    rcases List.mem_cons.1 hv with rfl | hv
    · exact h.1
    · exact scalarL_mem h.2 v hv
theorem noOwnL_mem : ∀ {vs : List AV}, noOwnL vs = true → ∀ v ∈ vs, v.noOwn = true
  | [], _, v, hv => by cases hv
  | x :: vs, h, v, hv => by
    simp only [noOwnL, Bool.and_eq_true] at h
    rcases List.mem_cons.1 hv with rfl | hv
    · exact h.1
    · exact noOwnL_mem h.2 v hv
theorem borL_eq (rows : List (Option Row)) : ∀ vs, borL rows vs = vs.map (AV.bor rows)
  | [] => by simp [borL]
  | v :: vs => by simp [borL, borL_eq rows vs]
theorem V.scalar {w w' : World} {S S' : Nat → Prop} {γ γ' : List Nat} {ρ ρ' : List Value} {b : Bool} {a : AV} {u : Value} (h : V w S γ ρ b a u) (hs : a.scalar = true) : ∀ b', V w' S' γ' ρ' b' a u := by
  induction h with
  | any => exact fun _ => .any
  | lit => exact fun _ => .lit
  | opt => cases hs
  | agg hl _ ih =>
    simp only [AV.scalar] at hs
    exact fun b' => .agg hl fun i c u h1 h2 => ih i c u h1 h2 (scalarL_mem hs c (List.mem_of_getElem? h1)) b'
  | tup hl _ ih =>
    simp only [AV.scalar] at hs
    exact fun b' => .tup hl fun i c u h1 h2 => ih i c u h1 h2 (scalarL_mem hs c (List.mem_of_getElem? h1)) b'
  | fn hl _ ih =>
    simp only [AV.scalar] at hs
    exact fun b' => .fn hl fun i c u h1 h2 => ih i c u h1 h2 (scalarL_mem hs c (List.mem_of_getElem? h1)) b'
  | ro => cases hs
  | rop => cases hs
  | own => cases hs
  | rp => cases hs
  | bp => cases hs
def rowBlk (rows : List (Option Row)) (ρ : List Value) (g : Nat) : Prop := ∃ (r : Nat) (rw_ : Row) (v : Value), rows[r]? = some (some rw_) ∧ ρ[r]? = some v ∧ v.ownBlock = some g
theorem getRow_spec {rows : List (Option Row)} {r sz : Nat} {rw_ : Row} (h : getRow rows r sz = some rw_) : rows[r]? = some (some rw_) ∧ rw_.sz = sz := by
  unfold getRow at h
  split at h
  · split at h
    · rename_i h1 h2; cases h; exact ⟨h1, h2⟩
    · cases h
  · cases h
theorem V.bor {w : World} {B : Nat} {S : Nat → Prop} {γ : List Nat} {ρ : List Value} {boxes : List (List AV)} {rows : List (Option Row)} (hr : HR w B S γ ρ boxes rows) {b : Bool} {a : AV} {u : Value}
    (h : V w S γ ρ b a u) : ∀ b', V w (fun g => S g ∨ rowBlk rows ρ g) γ ρ b' (a.bor rows) u := by
  have up : ∀ {b0 : Bool} {x : AV} {y : Value}, V w S γ ρ b0 x y → V w (fun g => S g ∨ rowBlk rows ρ g) γ ρ b0 x y := fun hv => hv.mono (fun p _ x hx => hx) (fun g hg => .inl hg) (fun _ _ h => h) (fun _ _ h => h)
  induction h with
  | any => intro b'; simp only [AV.bor]; exact .any
  | lit => intro b'; simp only [AV.bor]; exact .lit
  | opt => intro b'; simp only [AV.bor]; exact .any
  | agg hl _ ih =>
    intro b'
    simp only [AV.bor, borL_eq]
    refine .agg (by simpa using hl) fun i c u h1 h2 => ?_
    rw [List.getElem?_map] at h1
    obtain ⟨c0, hc, rfl⟩ := Option.map_eq_some_iff.1 h1
    exact ih i c0 u hc h2 b'
  | tup hl _ ih =>
    intro b'
    simp only [AV.bor, borL_eq]
    refine .tup (by simpa using hl) fun i c u h1 h2 => ?_
    rw [List.getElem?_map] at h1
    obtain ⟨c0, hc, rfl⟩ := Option.map_eq_some_iff.1 h1
    exact ih i c0 u hc h2 b'
  | fn hl _ ih =>
    intro b'
    simp only [AV.bor, borL_eq]
    refine .fn (by simpa using hl) fun i c u h1 h2 => ?_
    rw [List.getElem?_map] at h1
    obtain ⟨c0, hc, rfl⟩ := Option.map_eq_some_iff.1 h1
    exact ih i c0 u hc h2 b'
  | ro U hn hc hm hz hA hv _ =>
    intro b'
    simp only [AV.bor]
    refine .ro U hn hc hm hz (fun hne => ?_) fun i r j x h1 h2 => up (hv i r j x h1 h2)
    obtain ⟨ad, e, hs, hcell⟩ := hA hne
    exact ⟨ad, e, .inl hs, hcell⟩
  | rop U hs hcell hv _ =>
    intro b'
    simp only [AV.bor]
    exact .rop U (.inl hs) hcell fun j x h1 => up (hv j x h1)
  | rp => intro b'; simp only [AV.bor]; exact .any
  | bp => intro b'; simp only [AV.bor]; exact .any
  | own hρ h0 hlen h1 hm hA =>
    intro b'
    rename_i r sz off len A c A0 n0 c0
    simp only [AV.bor]
    cases hg : getRow rows r sz with
    | none => exact .any
    | some rw_ =>
      obtain ⟨hrow, rfl⟩ := getRow_spec hg
      obtain ⟨hpos, hlenz, _, cells, hown, hc⟩ := hr.row r rw_ _ hrow hρ
      have hn0 : n0 = rw_.elems.length := by
        rcases hown.2 with ⟨e, hz0⟩ | ⟨g, cap, cur, e, _⟩
        · injection e with _ e2 _; omega
        · injection e with _ e2 _
      have hlen' : ((rw_.elems.drop off).take len).length = len := by simp; omega
      refine V.ro (fun i j => cells.getD ((off + i) * rw_.sz + j) undef) hlen' hlen hm (fun x hx => hlenz x (List.mem_of_mem_drop (List.mem_of_mem_take hx))) (fun hne => ?_) (fun i x j y hi hj => ?_)
      · have hl0 : 0 < len := by
          rcases Nat.eq_zero_or_pos len with h | h
          · subst h; simp at hne
          · exact h
        obtain ⟨g, rfl, rfl⟩ := hA hl0
        refine ⟨_, rfl, .inr ⟨r, rw_, _, hrow, hρ, rfl⟩, fun i x j y hi hj => ?_⟩
        rw [List.getElem?_take] at hi
        split at hi
        · rw [List.getElem?_drop] at hi
          obtain ⟨z, h2, h1c, _⟩ := hc _ x j y hi hj
          rw [addr_add]
          have := own_cell hown h2
          rw [List.getD_eq_getElem?_getD, h2]
          rw [show off * rw_.sz + (i * rw_.sz + j) = (off + i) * rw_.sz + j by rw [Nat.add_mul]; omega]
          exact ⟨this, h1c⟩
        · cases hi
      · rw [List.getElem?_take] at hi
        split at hi
        · rw [List.getElem?_drop] at hi
          obtain ⟨z, h2, _, h3⟩ := hc _ x j y hi hj
          rw [List.getD_eq_getElem?_getD, h2]
          exact up h3
        · cases hi
theorem V.noOwn_bor {w : World} {S : Nat → Prop} {γ : List Nat} {ρ : List Value} (rows : List (Option Row)) {b : Bool} {a : AV} {u : Value}
    (h : V w S γ ρ b a u) (hn : a.noOwn = true) : ∀ b', V w S γ ρ b' (a.bor rows) u := by
  induction h with
  | any => intro b'; simp only [AV.bor]; exact .any
  | lit => intro b'; simp only [AV.bor]; exact .lit
  | opt => intro b'; simp only [AV.bor]; exact .any
  | agg hl _ ih =>
    intro b'
    simp only [AV.noOwn] at hn
    simp only [AV.bor, borL_eq]
    refine .agg (by simpa using hl) fun i c u h1 h2 => ?_
    rw [List.getElem?_map] at h1
    obtain ⟨c0, hc, rfl⟩ := Option.map_eq_some_iff.1 h1
    exact ih i c0 u hc h2 (noOwnL_mem hn c0 (List.mem_of_getElem? hc)) b'
  | tup hl _ ih =>
    intro b'
    simp only [AV.noOwn] at hn
    simp only [AV.bor, borL_eq]
    refine .tup (by simpa using hl) fun i c u h1 h2 => ?_
    rw [List.getElem?_map] at h1
    obtain ⟨c0, hc, rfl⟩ := Option.map_eq_some_iff.1 h1
    exact ih i c0 u hc h2 (noOwnL_mem hn c0 (List.mem_of_getElem? hc)) b'
  | fn hl _ ih =>
    intro b'
    simp only [AV.noOwn] at hn
    simp only [AV.bor, borL_eq]
    refine .fn (by simpa using hl) fun i c u h1 h2 => ?_
    rw [List.getElem?_map] at h1
    obtain ⟨c0, hc, rfl⟩ := Option.map_eq_some_iff.1 h1
    exact ih i c0 u hc h2 (noOwnL_mem hn c0 (List.mem_of_getElem? hc)) b'
  | ro U hn' hc hm hz hA hv _ => intro b'; simp only [AV.bor]; exact .ro U hn' hc hm hz hA hv
  | rop U hs hcell hv _ => intro b'; simp only [AV.bor]; exact .rop U hs hcell hv
  | rp => intro b'; simp only [AV.bor]; exact .any
  | bp => cases hn
  | own => cases hn
def boxBlk (boxes : List (List AV)) (γ : List Nat) (g : Nat) : Prop := ∃ (k : Nat) (cs : List AV), boxes[k]? = some cs ∧ γ[k]? = some g
def AV.lend (boxes : List (List AV)) (rows : List (Option Row)) : AV → AV
  | .bp b off => .rop (((boxes.getD b []).drop off).map (AV.bor rows))
  | .any => .any
  | .lit v => .lit v
  | .agg cs => AV.bor rows (.agg cs)
  | .tup cs => AV.bor rows (.tup cs)
  | .fn g cs => AV.bor rows (.fn g cs)
  | .ro sz xs => .ro sz xs
  | .rop cs => .rop cs
  | .own r sz off len => AV.bor rows (.own r sz off len)
  | .rp _ _ _ _ => .any
  | .opt _ _ => .any
theorem V.lend {w : World} {B : Nat} {S : Nat → Prop} {γ : List Nat} {ρ : List Value} {boxes : List (List AV)} {rows : List (Option Row)} (hr : HR w B S γ ρ boxes rows) {b : Bool} {a : AV} {u : Value}
    (h : V w S γ ρ b a u) : ∀ b', V w (fun g => S g ∨ rowBlk rows ρ g ∨ boxBlk boxes γ g) γ ρ b' (a.lend boxes rows) u := by
  have up : ∀ {b0 : Bool} {x : AV} {y : Value}, V w (fun g => S g ∨ rowBlk rows ρ g) γ ρ b0 x y → V w (fun g => S g ∨ rowBlk rows ρ g ∨ boxBlk boxes γ g) γ ρ b0 x y := fun hv =>
    hv.mono (fun p _ x hx => hx) (fun g hg => hg.imp id .inl) (fun _ _ h => h) (fun _ _ h => h)
  intro b'
  have hb := up (h.bor hr b')
  cases a with
  | bp k off =>
    simp only [AV.lend]
    cases h with
    | bp hγ =>
      rename_i g
      obtain ⟨cs, hcs⟩ : ∃ cs, boxes[k]? = some cs := ⟨_, List.getElem?_eq_getElem (by rw [← hr.nb]; exact (List.getElem?_eq_some_iff.1 hγ).1)⟩
      obtain ⟨_, _, us, ty, e3, e4, e5⟩ := hr.box k cs g hcs hγ
      have hget : boxes.getD k [] = cs := by rw [List.getD_eq_getElem?_getD, hcs]; rfl
      rw [hget]
      have hj : ∀ (j : Nat) (x : AV), ((cs.drop off).map (AV.bor rows))[j]? = some x → ∃ c u, x = c.bor rows ∧ us[off + j]? = some u ∧ V w S γ ρ false c u := fun j x hx => by
        rw [List.getElem?_map] at hx
        obtain ⟨c, hc, rfl⟩ := Option.map_eq_some_iff.1 hx
        rw [List.getElem?_drop] at hc
        obtain ⟨u, f1, _, f3⟩ := e5 _ c hc
        exact ⟨c, u, rfl, f1, f3⟩
      refine .rop (fun j => us.getD (off + j) undef) (.inr (.inr ⟨k, cs, hcs, hγ⟩)) (fun j x hx => ?_) (fun j x hx => ?_)
      · obtain ⟨c, u, _, f1, _⟩ := hj j x hx
        rw [addr_add]
        have : us.getD (off + j) undef = u := by rw [Array.getD_eq_getD_getElem?, f1]; rfl
        rw [this]
        rw [cell_of_row w g _ us ty (0, 0) e3]; exact f1
      · obtain ⟨c, u, rfl, f1, f3⟩ := hj j x hx
        have : us.getD (off + j) undef = u := by rw [Array.getD_eq_getD_getElem?, f1]; rfl
        rw [this]
        exact up (f3.bor hr true)
  | _ => first | exact hb | exact .any
theorem V.noOwn_lend {w : World} {S : Nat → Prop} {γ : List Nat} {ρ : List Value} (boxes : List (List AV)) (rows : List (Option Row)) {b : Bool} {a : AV} {u : Value}
    (h : V w S γ ρ b a u) (hn : a.noOwn = true) : ∀ b', V w S γ ρ b' (a.lend boxes rows) u := by
  intro b'
  have hb := h.noOwn_bor rows hn b'
  cases a with
  | bp k off => cases hn
  | _ => first | exact hb | exact .any
def Callable (P : Program) (f : FuncId) : Prop := ∃ fn, P.funcs[f]? = some fn ∧ (fn.name == "runtime.NumGoroutine") = false ∧ fn.body.isNone = false
def ACall (P : Program) (f : FuncId) (args : List AV) (r : AV) : Prop :=
  Callable P f ∧ ∀ (w : World) (S : Nat → Prop) (us : List Value), (∀ b, S b → b < w.heap.size) → us.length = args.length →
    (∀ (i : Nat) (a : AV) (u : Value), args[i]? = some a → us[i]? = some u → V w S [] [] true a u) →
    Calls P f us.toArray w fun e w' => ∃ u, e = .returned u ∧ Below w.heap.size w w' ∧ V w' (fun b => S b ∨ (w.heap.size ≤ b ∧ b < w'.heap.size)) [] [] true r u
/-! ### states -/
def evA (env : List (Nat × AV)) : Operand → AV
  | .tmp t => eget env t
  | .const v => .lit v
  | .global _ => .any
  | .func f => .lit (.func (.func f) #[] #[])
def un : AV → AV
  | .opt _ v => v
  | .any => .any
  | .lit v => .lit v
  | .agg cs => .agg cs
  | .tup cs => .tup cs
  | .fn g cs => .fn g cs
  | .ro sz xs => .ro sz xs
  | .rop cs => .rop cs
  | .own r sz off len => .own r sz off len
  | .rp r sz i f => .rp r sz i f
  | .bp b off => .bp b off
def uok (c : Bool) : AV → Prop
  | .opt p _ => c = true → p = true
  | .any => True
  | .lit _ => True
  | .agg _ => True
  | .tup _ => True
  | .fn _ _ => True
  | .ro _ _ => True
  | .rop _ => True
  | .own _ _ _ _ => True
  | .rp _ _ _ _ => True
  | .bp _ _ => True
def uoks (c : Bool) (ev : Operand → AV) : List Operand → Prop
  | [] => True
  | x :: xs => uok c (ev x) ∧ uoks c ev xs
theorem uoks_mem {c : Bool} {ev : Operand → AV} : ∀ {xs : List Operand}, uoks c ev xs → ∀ x ∈ xs, uok c (ev x)
  | [], _, x, hx => by cases hx
  | y :: xs, h, x, hx => by
    rcases List.mem_cons.1 hx with rfl | hx
    · exact h.1
    · exact uoks_mem h.2 x hx
theorem V.un {w : World} {S : Nat → Prop} {γ : List Nat} {ρ : List Value} {b c : Bool} {a : AV} {u : Value} (h : V w S γ ρ b a u) (hc : c = true) (ho : uok c a) : V w S γ ρ b (un a) u := by
  cases a <;> try (simp only [AL.un]; exact h)
  simp only [AL.un]
  cases h with
  | opt h1 _ => exact h1 (ho hc)
variable {P : Program}
theorem RelAt.ev {w0 : World} {S0 : Stab} {n : Nat} {st : ASt} {a : Act} {w : World} {S : Nat → Prop} {γ : List Nat} {ρ : List Value} (h : RelAt w0 S0 n st a w S γ ρ) (x : Operand) :
    V w S γ ρ false (evA st.env x) (a.eval x) := by
  cases x with
  | tmp t => exact h.env t
  | const v => exact .lit
  | global g => exact .any
  | func f => exact .lit
def fnOf : AV → Option (FuncId × List AV)
  | .lit (.func (.func g) f c) => if f.size = 0 ∧ c.size = 0 then some (g, []) else none
  | .fn g cs => some (g, cs)
  | _ => none
theorem fnOf_spec {w : World} {S : Nat → Prop} {γ : List Nat} {ρ : List Value} {b : Bool} {v : AV} {u : Value} {g : FuncId × List AV} (h : fnOf v = some g) (hv : V w S γ ρ b v u) :
    ∃ us : List Value, u = .func (.func g.1) #[] us.toArray ∧ us.length = g.2.length ∧ ∀ (i : Nat) (c : AV) (x : Value), g.2[i]? = some c → us[i]? = some x → V w S γ ρ b c x := by
  unfold fnOf at h
  split at h
  · rename_i g' f c
    split at h
    · rename_i hc
      cases h
      have := hv.lit_eq
      subst this
      exact ⟨[], by rw [Array.eq_empty_of_size_eq_zero hc.1, Array.eq_empty_of_size_eq_zero hc.2], rfl, fun i c x h => by simp at h⟩
    · cases h
  · cases h
    cases hv with
    | fn hl hc => exact ⟨_, rfl, hl, hc⟩
  · cases h
def isB : AV → Bool
  | .lit (.bool _) => true
  | _ => false
def boolD : AV → Bool
  | .lit (.bool b) => b
  | _ => false
theorem isB_spec {v : AV} (h : isB v = true) : v = .lit (.bool (boolD v)) := by
  unfold isB at h
  split at h
  · rfl
  · cases h
def apureE (P : Program) (boxes : List (List AV)) (rows : List (Option Row)) (ev : Operand → AV) (c : Bool) (op : Op) (K : AV → Prop) : Prop :=
  match op with
  | .pick x y z =>
    match un (ev x) with
    | .lit (.bool t) => uok c (ev x) ∧ uok (c && t) (ev y) ∧ uok (c && !t) (ev z) ∧ (c = true → t = true → isB (un (ev y)) = true) ∧ (c = true → t = false → isB (un (ev z)) = true) ∧ K (.lit (.bool (bif t then boolD (un (ev y)) else boolD (un (ev z)))))
    | _ => False
  | .call ⟨.value f, args, _⟩ =>
    match fnOf (un (ev f)) with
    | some g => uok c (ev f) ∧ uoks c ev args.toList ∧ ∃ r, (c = true → ACall P g.1 ((args.toList.map fun x => (un (ev x)).lend boxes rows) ++ g.2.map (AV.lend boxes rows)) r) ∧
        (r.scalar || (noOwnL (args.toList.map fun x => un (ev x)) && noOwnL g.2)) = true ∧ K r
    | none => False
  | op => uoks c ev op.operands.toList ∧ (c = true → (ares P boxes rows (fun x => un (ev x)) op).2) ∧ K (ares P boxes rows (fun x => un (ev x)) op).1
def apure (P : Program) (st : ASt) (c : Bool) (op : Op) (K : AV → Prop) : Prop := apureE P st.boxes st.rows (evA st.env) c op K
theorem HR.later {w w' : World} {B : Nat} {S S' : Nat → Prop} {γ : List Nat} {ρ : List Value} {boxes : List (List AV)} {rows : List (Option Row)} (h : HR w B S γ ρ boxes rows)
    (hb : ∀ g, g < w.heap.size → w'.heap[g]? = w.heap[g]?) (hSw : ∀ g, S g → g < w.heap.size) (hS : ∀ g, S g → S' g) (hS' : ∀ g, S' g → S g ∨ w.heap.size ≤ g) : HR w' B S' γ ρ boxes rows := by
  have mono : ∀ {b : Bool} {a : AV} {u : Value}, V w S γ ρ b a u → V w' S' γ ρ b a u := fun hv =>
    hv.mono (fun p hp x hx => by rw [World.cell?_of_block (hb _ (hSw _ hp))]; exact hx) hS (fun _ _ h => h) (fun _ _ h => h)
  refine ⟨h.nb, h.nr, fun k cs g h1 h2 => ?_, fun r rw_ v h1 h2 => ?_, h.inj, h.sep, h.rinj⟩
  · obtain ⟨e1, e2, us, ty, e3, e4, e5⟩ := h.box k cs g h1 h2
    have hlt : g < w.heap.size := (Array.getElem?_eq_some_iff.1 e3).1
    refine ⟨e1, fun hs => ?_, us, ty, by rw [hb g hlt]; exact e3, e4, fun j c hj => ?_⟩
    · rcases hS' g hs with h | h
      · exact e2 h
      · omega
    · obtain ⟨u, f1, f2, f3⟩ := e5 j c hj
      exact ⟨u, f1, f2, mono f3⟩
  · obtain ⟨e1, e2, e3, cells, e4, e5⟩ := h.row r rw_ v h1 h2
    have hg : w.grownBy { w' with os := w.os, tape := w.tape, output := w.output, heap := w'.heap } none → True := fun _ => trivial
    refine ⟨e1, e2, fun g hg hs => ?_, cells, ?_, fun i x j c hi hj => ?_⟩
    · rcases hS' g hs with h | h
      · exact e3 g hg h
      · have := (e4.lt g hg).2; omega
    · refine ⟨e4.1, ?_⟩
      rcases e4.2 with hn | ⟨g, cap, cur, hv, hB, hh, rest⟩
      · exact .inl hn
      · exact .inr ⟨g, cap, cur, hv, hB, by rw [hb g (Array.getElem?_eq_some_iff.1 hh).1]; exact hh, rest⟩
    · obtain ⟨u, f1, f2, f3⟩ := e5 i x j c hi hj
      exact ⟨u, f1, f2, mono f3⟩
theorem RelAt.later {w0 : World} {S0 : Stab} {n : Nat} {st : ASt} {a : Act} {w w' : World} {S S' : Nat → Prop} {γ : List Nat} {ρ : List Value} (h : RelAt w0 S0 n st a w S γ ρ)
    (hb : Below w.heap.size w w') (hS : ∀ g, S g → S' g) (hS' : ∀ g, S' g → S g ∨ (w.heap.size ≤ g ∧ g < w'.heap.size)) : RelAt w0 S0 n st a w' S' γ ρ := by
  have hw0 := h.below.size
  refine ⟨h.below.trans (hb.mono hw0), ⟨fun b hs => ?_, h.s0.2.later (fun g hg => hb.block g hg) (fun g hg => (hS' g hg).imp id (·.1))⟩, fun b hs => ?_, h.heap.later (fun g hg => hb.block g hg) h.sw hS (fun g hg => (hS' g hg).imp id (·.1)), h.size, h.defs.map fun _ hk => hk.later (fun g hg => hb.block g hg) (fun g hg => (hS' g hg).imp id (·.1)), fun s => ?_⟩
  · rcases hS' b hs with h1 | h1
    · exact h.s0.1 b h1
    · exact .inr (by omega)
  · rcases hS' b hs with h1 | h1
    · have := h.sw b h1; have := hb.size; omega
    · exact h1.2
  · exact (h.env s).mono (fun p hp x hx => by rw [hb.cell (h.sw _ hp)]; exact hx) hS (fun _ _ h => h) (fun _ _ h => h)
theorem apureE_sound {B : Nat} {boxes : List (List AV)} {rows : List (Option Row)} {ev : Operand → AV} {a : Act} {w : World} {S : Nat → Prop} {γ : List Nat} {ρ : List Value} (hr : HR w B S γ ρ boxes rows)
    (hsw : ∀ b, S b → b < w.heap.size) (hev : ∀ x, V w S γ ρ false (ev x) (a.eval x)) {c : Bool} (hc : c = true)
    {o : Oper} {K : AV → Prop} (hp : apureE P boxes rows ev c o.op K) :
    ∃ v, K v ∧ ∀ (next : Act → World → Prop) (Q : Exit → Act → World → Prop), (∀ u w' S', Below w.heap.size w w' → (∀ g, S g → S' g) → (∀ g, S' g → S g ∨ (w.heap.size ≤ g ∧ g < w'.heap.size)) →
      V w' S' γ ρ false v u → next (a.put o.dst u) w') → o.wp P a w next Q := by
  have plain : uoks c ev o.op.operands.toList → (c = true → (ares P boxes rows (fun x => un (ev x)) o.op).2) → K (ares P boxes rows (fun x => un (ev x)) o.op).1 →
      ∃ v, K v ∧ ∀ (next : Act → World → Prop) (Q : Exit → Act → World → Prop), (∀ u w' S', Below w.heap.size w w' → (∀ g, S g → S' g) → (∀ g, S' g → S g ∨ (w.heap.size ≤ g ∧ g < w'.heap.size)) →
      V w' S' γ ρ false v u → next (a.put o.dst u) w') → o.wp P a w next Q := by
    intro h1 h2 h3
    obtain ⟨u, e1, e2⟩ := ares_sound (P := P) hr (ev := fun x => un (ev x)) (rc := a.eval) (o := o) (fun x hx => (hev x).un hc (uoks_mem h1 x hx)) (h2 hc)
    refine ⟨_, h3, fun next Q hn => ?_⟩
    unfold Oper.wp
    rw [e1]
    exact hn u w S (Below.refl _ _) (fun _ h => h) (fun _ h => .inl h) e2
  obtain ⟨dst, op, ty, pos, after, guard⟩ := o
  simp only at hp plain
  unfold apureE at hp
  split at hp
  · rename_i x y z
    split at hp
    · rename_i t hx
      obtain ⟨u1, u2, u3, i1, i2, hK⟩ := hp
      have vx := (hev x).un hc u1
      rw [hx] at vx
      have ex := vx.lit_eq
      refine ⟨_, hK, fun next Q hn => ?_⟩
      unfold Oper.wp
      have key : (execOp a.eval ⟨dst, .pick x y z, ty, pos, after, guard⟩).run P w = .ok (.value (.bool (bif t then boolD (un (ev y)) else boolD (un (ev z))))) w := by
        simp only [execOp, ex, asBool, Sem.run_bind, Sem.run_pure, Result.andThen_ok]
        cases t
        · have vz := (hev z).un (c := c && !false) (by simp [hc]) u3
          rw [isB_spec (i2 hc rfl)] at vz
          simp [vz.lit_eq]
        · have vy := (hev y).un (c := c && true) (by simp [hc]) u2
          rw [isB_spec (i1 hc rfl)] at vy
          simp [vy.lit_eq]
      rw [key]
      exact hn _ w S (Below.refl _ _) (fun _ h => h) (fun _ h => .inl h) .lit
    · cases hp
  · rename_i f args tys
    split at hp
    · rename_i g hf
      obtain ⟨huf, hu, r, hcall, hsc, hK⟩ := hp
      obtain ⟨cu, ef, hcl, hcv⟩ := fnOf_spec hf ((hev f).un hc huf)
      obtain ⟨⟨fn, hfn, hname, hbody⟩, hcall⟩ := hcall hc
      have hmap : args.map a.eval ++ cu.toArray = (args.toList.map a.eval ++ cu).toArray := by apply Array.ext'; simp
      have hrun : (execOp a.eval ⟨dst, .call ⟨.value f, args, tys⟩, ty, pos, after, guard⟩).run P w = .ok (.enter g.1 (args.toList.map a.eval ++ cu).toArray) w := by
        rw [← hmap]
        simp only [execOp, resolve, Deferred.ofValue, ef, invoke, Sem.run_bind, Sem.run_pure, Result.andThen_ok]
        have hn1 : fn.name ≠ "runtime.NumGoroutine" := by simpa using hname
        have hb1 : fn.body ≠ none := by intro e; rw [e] at hbody; cases hbody
        simp [callFunc, hfn, hn1, hb1]
      refine ⟨r, hK, fun next Q hn => ?_⟩
      unfold Oper.wp
      rw [hrun, Oper.upon_enter]
      have hlen : (args.toList.map a.eval ++ cu).length = ((args.toList.map fun x => (un (ev x)).lend boxes rows) ++ g.2.map (AV.lend boxes rows)).length := by simp [hcl]
      have each : ∀ (p : AV → Prop) (S' : Nat → Prop), (∀ y ∈ args.toList, p (un (ev y))) → (∀ y ∈ g.2, p y) → (∀ (a : AV) (u : Value), p a → V w S γ ρ false a u → V w S' γ ρ true (a.lend boxes rows) u) →
          ∀ (i : Nat) (x : AV) (u : Value), ((args.toList.map fun x => (un (ev x)).lend boxes rows) ++ g.2.map (AV.lend boxes rows))[i]? = some x → (args.toList.map a.eval ++ cu)[i]? = some u → V w S' [] [] true x u := by
        intro p S' hpa hpg hl i x u h1 h2
        by_cases hi : i < args.toList.length
        · rw [List.getElem?_append_left (by simpa using hi), List.getElem?_map] at h1 h2
          obtain ⟨y, hy, rfl⟩ := Option.map_eq_some_iff.1 h1
          rw [hy] at h2; cases h2
          exact (hl _ _ (hpa y (List.mem_of_getElem? hy)) ((hev y).un hc (uoks_mem hu y (List.mem_of_getElem? hy)))).closed true
        · rw [List.getElem?_append_right (by simpa using hi)] at h1 h2
          simp only [List.length_map, List.getElem?_map] at h1 h2
          obtain ⟨y, hy, rfl⟩ := Option.map_eq_some_iff.1 h1
          exact (hl _ _ (hpg y (List.mem_of_getElem? hy)) (hcv _ _ _ hy h2)).closed true
      rcases Bool.or_eq_true_iff.1 hsc with hsc | hno
      · have := hcall w (fun g => S g ∨ rowBlk rows ρ g ∨ boxBlk boxes γ g) _ (fun b hb => by
            rcases hb with hb | ⟨r, rw_, v, e1, e2, e3⟩ | ⟨k, cs, e1, e2⟩
            · exact hsw b hb
            · obtain ⟨_, _, _, cells, e4, _⟩ := hr.row r rw_ v e1 e2
              exact (e4.lt b e3).2
            · obtain ⟨_, _, us, ty, e3, _⟩ := hr.box k cs b e1 e2
              exact (Array.getElem?_eq_some_iff.1 e3).1) hlen (each (fun _ => True) _ (fun _ _ => trivial) (fun _ _ => trivial) fun a u _ hv => hv.lend hr true)
        refine this.mono fun e w' ⟨u, he, hb, hv⟩ => ?_
        subst he
        exact hn u w' S hb (fun _ h => h) (fun _ h => .inl h) (hv.scalar hsc false)
      · obtain ⟨hno1, hno2⟩ := Bool.and_eq_true_iff.1 hno
        have := hcall w S _ hsw hlen (each (fun a => a.noOwn = true) _ (fun y hy => noOwnL_mem hno1 _ (List.mem_map.2 ⟨y, hy, rfl⟩)) (fun y hy => noOwnL_mem hno2 y hy) fun a u hn hv => hv.noOwn_lend boxes rows hn true)
        refine this.mono fun e w' ⟨u, he, hb, hv⟩ => ?_
        subst he
        exact hn u w' _ hb (fun _ h => .inl h) (fun _ h => h) (hv.closed false)
    · cases hp
  · obtain ⟨h1, h2, h3⟩ := hp
    exact plain h1 h2 h3
theorem apure_sound {w0 : World} {S0 : Stab} {n : Nat} {st : ASt} {a : Act} {w : World} {S : Nat → Prop} {γ : List Nat} {ρ : List Value} (h : RelAt w0 S0 n st a w S γ ρ) {c : Bool} (hc : c = true)
    {o : Oper} {K : AV → Prop} (hp : apure P st c o.op K) :
    ∃ v, K v ∧ ∀ (next : Act → World → Prop) (Q : Exit → Act → World → Prop), (∀ u w' S', Below w.heap.size w w' → (∀ g, S g → S' g) → (∀ g, S' g → S g ∨ (w.heap.size ≤ g ∧ g < w'.heap.size)) →
      V w' S' γ ρ false v u → next (a.put o.dst u) w') → o.wp P a w next Q :=
  apureE_sound h.heap h.sw h.ev hc hp
end Go.AL
