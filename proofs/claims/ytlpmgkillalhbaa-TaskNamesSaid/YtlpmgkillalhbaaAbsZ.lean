/-
  The abstract layer, append of zeros to nil, the room of a slice, copy. Over whatever program; no program in sight.
-/
import Derived.Test.YtlpmgkillalhbaaAbsQ
import Derived.Laws.CopyRow

set_option linter.unusedSimpArgs false
set_option linter.unusedVariables false
set_option linter.constructorNameAsVariable false

namespace Go.AL
open Go.RowKit
set_option linter.unusedSimpArgs false
set_option linter.unusedVariables false

variable {P : Program} {n : Nat}

/-! ### append of zeros to nil, the room of a slice, copy into what is the call's own -/
/-- what lies in a row behind a copy of some elements to a place -/
def laid (xs : List (List AV)) (off : Nat) (ys : List (List AV)) : List (List AV) := xs.take off ++ ys ++ xs.drop (off + ys.length)

def aopZ (P : Program) (n : Nat) (o : Oper) (st : ASt) (K : ASt → Prop) : Prop :=
  dok n o.dst ∧ o.guard = none ∧
  match o.op with
  | .call ⟨.builtin .cap, args, ts⟩ =>
    match args.toList, ts.toList with
    | [x], [t] => uok true (evA st.env x) ∧ (elS P t).isSome = true ∧
      (match un (evA st.env x) with
      | .lit (.slice _ _ c) => K (st.put o.dst (.lit (.int .i64 c)))
      | _ => False)
    | _, _ => False
  | .call ⟨.builtin .append, args, ts⟩ =>
    match args.toList, ts.toList with
    | [s, x], [t, t'] => (cvT P t' t').isSome = true ∧ uok true (evA st.env s) ∧ uok true (evA st.env x) ∧
      (match apT P t, zeroL P (match apT P t with | some q => q.1 | none => 0), un (evA st.env s), un (evA st.env x) with
      | some q, some z, .lit (.slice none 0 0), .lit (.int _ m) => 0 < m ∧ m * q.2.2 ≤ 140737488355328 ∧ (z.all fun v => v.oneCell') = true ∧
          K (ASt.put { st with rows := st.rows ++ [some ⟨q.1, q.2.1, List.replicate m.toNat (z.map .lit)⟩] } o.dst (.own st.rows.length q.2.1 0 m.toNat))
      | _, _, _, _ => False)
    | _, _ => False
  | .call ⟨.builtin .copy, args, ts⟩ =>
    match args.toList, ts.toList with
    | [d, x], [t, t'] => uok true (evA st.env d) ∧ uok true (evA st.env x) ∧
      (match apT P t, un (evA st.env d), elemsOf st.rows (un (evA st.env x)) with
      | some q, .own r sz off len, some y => match getRow st.rows r sz with
        | some rw_ => sz = q.2.1 ∧ y.1 = q.2.1 ∧ 0 < y.2.length ∧ y.2.length ≤ len ∧ off + len ≤ rw_.elems.length ∧
            K (ASt.put { st with rows := st.rows.set r (some { rw_ with elems := laid rw_.elems off y.2 }) } o.dst (.lit (.int .i64 y.2.length)))
        | none => False
      | some q, .own r sz off len, none => False
      | _, _, _ => False)
    | _, _ => False
  | _ => False
/-- a copy of no element -/
def aopZ0 (P : Program) (n : Nat) (o : Oper) (st : ASt) (K : ASt → Prop) : Prop :=
  dok n o.dst ∧ o.guard = none ∧
  match o.op with
  | .call ⟨.builtin .copy, args, ts⟩ =>
    match args.toList, ts.toList with
    | [d, x], [t, t'] => uok true (evA st.env d) ∧ uok true (evA st.env x) ∧
      (match apT P t, un (evA st.env d), elemsOf st.rows (un (evA st.env x)) with
      | some q, .own r sz off len, some y => y.2 = [] ∧ K (st.put o.dst (.lit (.int .i64 0)))
      | _, _, _ => False)
    | _, _ => False
  | _ => False

theorem run_append_zeros (w : World) (t tn ty e : TypeId) (i : TypeInfo) (z : Value) (k kn : IntKind) (ht : P.underlying t = some (.slice e)) (htn : P.underlying tn = some (.int kn)) (hi : P.info? e = some i) (hz : i.zero = some z)
    (n : Nat) (h0 : 0 < n) (hs : 0 < i.size) (h63 : (n : Int) ≤ 9223372036854775807) (h48 : n * i.bytes ≤ 281474976710656) :
    (Builtin.append_ #[t, tn] ty #[.slice none 0 0, .int k n]).run P w =
      .ok (.slice (some ⟨w.heap.size, 0, none⟩) n (grownCap w n 0 e)) (w.drew.alloc (.cells (Builtin.zeroCells z.cells n ++ Builtin.zeroCells z.cells (grownCap w n 0 e - n)) e)) := by
  have e1 : IntKind.i64.wrap (n : Int) = n := wrap_id (by omega) h63
  have e2 : ¬ ((n : Int) < 0) := by omega
  have e3 : ¬ (281474976710656 < (n : Int) * (i.bytes : Int)) := by rw [← Int.natCast_mul]; omega
  have e4 : ¬ (281474976710656 < Builtin.nextslicecap n 0 * i.bytes) := by rw [nextslicecap_zero h0]; omega
  have e5 : ¬ (9223372036854775807 < (n : Int)) := by omega
  have e6 : ¬ (n * i.size = 0) := Nat.mul_ne_zero (by omega) (by omega)
  have e7 : n ≠ 0 := by omega
  simp [Builtin.append_, run_underlying ht, run_underlying htn, sizeOf, typeInfo, zeroValue, hi, hz, asInt, asIntOf, e1, e2, e3, e4, e5, e6, e7, Question.forced, run_firstCells_none, newRow, grownCap]

theorem run_copy_one (w : World) (dT sT ty elem : TypeId) (i : TypeInfo) (g o dLen dCap : Nat) (a : Addr) (sLen sCap : Nat) (cur : Array Value) (t : TypeId) (cs : List Value)
    (hu : P.underlying dT = some (.slice elem)) (hi : P.info? elem = some i) (hle : sLen ≤ dLen)
    (hg : w.heap[g]? = some (.cells cur t (0, 0))) (hn : cs.length = sLen * i.size)
    (hsrc : ∀ j v, cs[j]? = some v → w.cell? (a.add j) = some v) (hfit : o + cs.length ≤ cur.size) (h1 : ∀ v ∈ cs, v.oneCell' = true) :
    (Builtin.copy_ #[dT, sT] ty #[.slice (some ⟨g, o, none⟩) dLen dCap, .slice (some a) sLen sCap]).run P w =
      .ok (.int .i64 sLen) (w.setRow g (cur.toList.take o ++ cs ++ cur.toList.drop (o + cs.length)).toArray) := by
  have hl := run_firstCells_some (P := P) w i.size sLen a sLen sCap cs hn hsrc
  have hst := run_storeCells_at P g o t cs 0 cur w hg (by simpa using hfit) h1
  have hmin : Nat.min sLen dLen = sLen := Nat.min_eq_left hle
  simp only [Nat.add_zero] at hst
  simp [Builtin.copy_, run_underlying hu, Builtin.lenOf, sizeOf, typeInfo, hi, hmin, hl, hst, goInt]

theorem run_copy_zero (w : World) (dT sT ty elem : TypeId) (i : TypeInfo) (A : Option Addr) (dLen dCap : Nat) (B : Option Addr) (sCap : Nat)
    (hu : P.underlying dT = some (.slice elem)) (hi : P.info? elem = some i) :
    (Builtin.copy_ #[dT, sT] ty #[.slice A dLen dCap, .slice B 0 sCap]).run P w = .ok (.int .i64 0) w := by
  have hm : Nat.min 0 dLen = 0 := Nat.min_eq_left (Nat.zero_le _)
  cases A <;> cases B <;> simp [Builtin.copy_, run_underlying hu, Builtin.lenOf, Builtin.firstCells, sizeOf, typeInfo, hi, hm, goInt, loadCells, loadCellsFrom, storeCells]

theorem zeroCells_get (z : Array Value) (m i j : Nat) (hi : i < m) (hj : j < z.size) : (Builtin.zeroCells z m).toList[i * z.size + j]? = z[j]? := by
  have hlt : i * z.size + j < m * z.size := by
    have : (i + 1) * z.size ≤ m * z.size := Nat.mul_le_mul_right _ hi
    rw [Nat.add_mul] at this; omega
  unfold Builtin.zeroCells
  simp only [Array.toList_map, Array.toList_range, List.getElem?_map]
  rw [List.getElem?_range hlt]
  simp only [Option.map_some]
  rw [Nat.mul_add_mod_self_right, Nat.mod_eq_of_lt hj]
  simp [hj]

theorem aopZ0_sound {w0 : World} {S0 : Nat → Prop} {all : List Oper} {o : Oper} {rest : List Oper} {st : ASt} {a : Act} {w : World} {K : ASt → Prop} {Q : Exit → Act → World → Prop} (h : Rel w0 S0 n st a w)
    (hp : aopZ0 P n o st K) (hn : ∀ st' a' w', K st' → Rel w0 S0 n st' a' w' → wpList P all.toArray Q rest a' w') : wpList P all.toArray Q (o :: rest) a w := by
  obtain ⟨S, γ, ρ, h⟩ := h
  obtain ⟨hd, hg, hp⟩ := hp
  obtain ⟨dst, op, ty, pos, after, guard⟩ := o
  simp only at hp hg hd
  subst hg
  have hw : Region.wanted ⟨dst, op, ty, pos, after, none⟩ (yielded all.toArray a.tmps) = true := by simp [Region.wanted]
  unfold wpList
  rw [if_pos hw]
  left
  split at hp
  · rename_i args ts
    split at hp
    · rename_i d x t t' hargs hts
      obtain ⟨hud, hux, hp⟩ := hp
      split at hp
      · rename_i q r sz off len y hq hdv hy
        obtain ⟨hye, hK⟩ := hp
        obtain ⟨ie, zv, htu, hti, htz, hts', htb, hzs, hpos, hbpos⟩ := apT_spec hq
        have hae : args = #[d, x] := by apply Array.ext'; simpa using hargs
        have hte : ts = #[t, t'] := by apply Array.ext'; simpa using hts
        subst hae; subst hte
        have vx := (h.ev x).un rfl hux
        have vd := (h.ev d).un rfl hud
        rw [hdv] at vd
        obtain ⟨A, cx, hxv, _, _⟩ := elems_cells h.heap vx hy
        rw [hye, List.length_nil] at hxv
        generalize hde : a.eval d = ud at vd
        cases vd with
        | own hρ h0 hlen h1 hm hA =>
          rename_i A1 c1 A0 n0 c0
          have hrun := run_copy_zero (P := P) w t t' ty q.1 ie A1 len c1 A cx htu hti
          unfold Oper.wp
          simp only [execOp, resolve, invoke, Sem.run_bind, Sem.run_pure, Result.andThen_ok, builtin, List.map_toArray, List.map_cons, List.map_nil, hxv, hde, hrun]
          exact hn _ _ _ hK ⟨S, γ, ρ, h.put (dok_spec hd) .lit⟩
      · cases hp
    · cases hp
  · cases hp

theorem aopZ_sound {w0 : World} {S0 : Nat → Prop} {all : List Oper} {o : Oper} {rest : List Oper} {st : ASt} {a : Act} {w : World} {K : ASt → Prop} {Q : Exit → Act → World → Prop} (h : Rel w0 S0 n st a w)
    (hp : aopZ P n o st K) (hn : ∀ st' a' w', K st' → Rel w0 S0 n st' a' w' → wpList P all.toArray Q rest a' w') : wpList P all.toArray Q (o :: rest) a w := by
  obtain ⟨S, γ, ρ, h⟩ := h
  obtain ⟨hd, hg, hp⟩ := hp
  obtain ⟨dst, op, ty, pos, after, guard⟩ := o
  simp only at hp hg hd
  subst hg
  have hw0 := h.below.size
  have hw : Region.wanted ⟨dst, op, ty, pos, after, none⟩ (yielded all.toArray a.tmps) = true := by simp [Region.wanted]
  unfold wpList
  rw [if_pos hw]
  left
  split at hp
  · -- cap
    rename_i args ts
    split at hp
    · rename_i x t hargs hts
      obtain ⟨hux, ht, hp⟩ := hp
      have hae : args = #[x] := by apply Array.ext'; simpa using hargs
      have hte : ts = #[t] := by apply Array.ext'; simpa using hts
      subst hae; subst hte
      obtain ⟨sz, hs⟩ := Option.isSome_iff_exists.1 ht
      obtain ⟨e, hu, _⟩ := elS_spec hs
      have vx := (h.ev x).un rfl hux
      split at hp
      · rename_i A m c hxv
        rw [hxv] at vx
        have hxe := vx.lit_eq
        have hrun : (Builtin.cap_ #[t] ty #[.slice A m c]).run P w = .ok (.int .i64 c) w := by simp [Builtin.cap_, run_underlying hu, goInt]
        unfold Oper.wp
        simp only [execOp, resolve, invoke, Sem.run_bind, Sem.run_pure, Result.andThen_ok, builtin, List.map_toArray, List.map_cons, List.map_nil, hxe, hrun]
        exact hn _ _ _ hp ⟨S, γ, ρ, h.put (dok_spec hd) .lit⟩
      · cases hp
    · cases hp
  · -- append of zeros
    rename_i args ts
    split at hp
    · rename_i s x t t' hargs hts
      obtain ⟨hint, hus, hux, hp⟩ := hp
      have hae : args = #[s, x] := by apply Array.ext'; simpa using hargs
      have hte : ts = #[t, t'] := by apply Array.ext'; simpa using hts
      subst hae; subst hte
      have vx := (h.ev x).un rfl hux
      have vs := (h.ev s).un rfl hus
      split at hp
      · rename_i q z k m hq hz hsv hxv
        obtain ⟨h0, hbytes, hz1, hK⟩ := hp
        rw [hq] at hz
        rw [hsv] at vs; rw [hxv] at vx
        have hse := vs.lit_eq; have hxe := vx.lit_eq
        obtain ⟨ie, zv, htu, hti, htz, hts', htb, hzs, hpos, hbpos⟩ := apT_spec hq
        obtain ⟨ie', zv', hi', hz', rfl⟩ := zeroL_spec hz
        rw [hti] at hi'; cases hi'
        rw [htz] at hz'; cases hz'
        obtain ⟨kn, hkn⟩ : ∃ kn, P.underlying t' = some (.int kn) := by
          obtain ⟨k1, hk1⟩ := Option.isSome_iff_exists.1 hint
          unfold cvT at hk1
          split at hk1
          · exact ⟨_, by assumption⟩
          · cases hk1
        have hm : ((m.toNat : Nat) : Int) = m := Int.toNat_of_nonneg (by omega)
        have hb2 : m.toNat * ie.bytes ≤ 140737488355328 := by
          have : ((m.toNat * ie.bytes : Nat) : Int) ≤ 140737488355328 := by rw [Int.natCast_mul, hm, htb]; exact hbytes
          omega
        have hmx : m.toNat ≤ 140737488355328 := by
          have : m.toNat * 1 ≤ m.toNat * ie.bytes := Nat.mul_le_mul_left _ (by omega)
          omega
        have hmax : m.toNat ≤ maxLen := by unfold maxLen; omega
        have hrun := run_append_zeros (P := P) w t t' ty q.1 ie zv k kn htu hkn hti htz m.toNat (by omega) (by omega) (by omega) (by omega)
        rw [hm] at hrun
        have hge := grownCap_ge w m.toNat 0 q.1
        have hcm : grownCap w m.toNat 0 q.1 ≤ maxLen := grownCap_le_maxLen w m.toNat 0 q.1 hmax
        generalize hcap : grownCap w m.toNat 0 q.1 = cap at *
        generalize hW : w.drew.alloc (.cells (Builtin.zeroCells zv.cells m.toNat ++ Builtin.zeroCells zv.cells (cap - m.toNat)) q.1) = W at *
        have hgrow : w.grownBy W none := by subst hW; exact ⟨rfl, rfl, rfl, by simp, fun k hk _ => heap_alloc_old w.drew _ hk⟩
        have hb : Below w.heap.size w W := (Below.refl _ _).grown hgrow (Nat.le_refl _) (fun k e => by cases e)
        have hzl : (Builtin.zeroCells zv.cells m.toNat).toList.length = m.toNat * q.2.1 := by rw [Array.length_toList, size_zeroCells, hzs]
        have hown : W.ownsRow w0.heap.size q.1 q.2.1 (.slice (some ⟨w.heap.size, 0, none⟩) m.toNat cap) m.toNat (Builtin.zeroCells zv.cells m.toNat).toList := by
          refine ⟨hzl, .inr ⟨w.heap.size, cap, Builtin.zeroCells zv.cells m.toNat ++ Builtin.zeroCells zv.cells (cap - m.toNat), rfl, hw0, ?_, hge, hcm, ?_, ?_⟩⟩
          · subst hW; exact heap_alloc_new w.drew _
          · rw [Array.size_append, size_zeroCells, size_zeroCells, hzs, ← Nat.add_mul]; congr 1; omega
          · rw [Array.toList_append, ← hzl]; exact List.take_left
        unfold Oper.wp
        simp only [execOp, resolve, invoke, Sem.run_bind, Sem.run_pure, Result.andThen_ok, builtin, List.map_toArray, List.map_cons, List.map_nil, hxe, hse, hrun]
        refine hn _ _ _ hK ⟨S, γ, ρ ++ [.slice (some ⟨w.heap.size, 0, none⟩) m.toNat cap], RelAt.put (h.newRow (rw_ := ⟨q.1, q.2.1, List.replicate m.toNat (zv.cells.toList.map .lit)⟩) (v := .slice (some ⟨w.heap.size, 0, none⟩) m.toNat cap) hb hpos (fun x hx => ?_) (fun g hg => ?_) (by simpa using hown) (fun i x j c hi hj => ?_)) (dok_spec hd) ?_⟩
        · rw [List.eq_of_mem_replicate hx]; simpa using hzs
        · simp [Value.ownBlock] at hg; omega
        · have hil := (List.getElem?_eq_some_iff.1 hi).1
          simp only [List.length_replicate] at hil
          simp only [List.getElem?_replicate, if_pos hil, Option.some.injEq] at hi
          subst hi
          rw [List.getElem?_map] at hj
          obtain ⟨y, hy, rfl⟩ := Option.map_eq_some_iff.1 hj
          have hjl : j < zv.cells.size := by have := (List.getElem?_eq_some_iff.1 hy).1; simpa using this
          refine ⟨y, ?_, List.all_eq_true.1 hz1 y (List.mem_of_getElem? hy), .lit⟩
          have := zeroCells_get zv.cells m.toNat i j hil hjl
          rw [hzs] at this
          rw [this]; simpa using hy
        · refine V.own (A0 := some ⟨w.heap.size, 0, none⟩) (n0 := m.toNat) (c0 := cap) (by rw [← h.heap.nr]; simp) (fun _ => ⟨rfl, rfl⟩) hge (by omega) hcm (fun _ => ⟨w.heap.size, rfl, by simp⟩)
      · cases hp
    · cases hp
  · -- copy
    rename_i args ts
    split at hp
    · rename_i d x t t' hargs hts
      obtain ⟨hud, hux, hp⟩ := hp
      have hae : args = #[d, x] := by apply Array.ext'; simpa using hargs
      have hte : ts = #[t, t'] := by apply Array.ext'; simpa using hts
      subst hae; subst hte
      split at hp
      · rename_i q r sz off len y hq hdv hy
        split at hp
        · rename_i rw_ hgr
          obtain ⟨rfl, hysz, hy0, hyl, hfit, hK⟩ := hp
          obtain ⟨hrow, hszr⟩ := getRow_spec hgr
          obtain ⟨ie, zv, htu, hti, htz, hts', htb, hzs, hpos', hbpos⟩ := apT_spec hq
          have vx := (h.ev x).un rfl hux
          have vd := (h.ev d).un rfl hud
          rw [hdv] at vd
          obtain ⟨A, cx, hxv, hylen, hycell⟩ := elems_cells h.heap vx hy
          obtain ⟨ad, hA, hc⟩ := hycell (by intro e; rw [e] at hy0; simp at hy0)
          subst hA
          generalize hde : a.eval d = ud at vd
          cases vd with
          | own hρ h0 hlen h1 hm hAd =>
            rename_i A1 c1 A0 n0 c0
            obtain ⟨g, rfl, rfl⟩ := hAd (by omega)
            obtain ⟨hpos, hlenz, hnS, cells, hown, hcv⟩ := h.heap.row r rw_ _ hrow hρ
            obtain ⟨_, hBg, _, _, cur, hh, hcsz, hct⟩ := own_cells hown
            -- the cells that go over
            obtain ⟨news, hnl, hnews⟩ : ∃ news : List Value, news.length = y.2.length * q.2.1 ∧ ∀ i r j c, y.2[i]? = some r → r[j]? = some c → ∃ u, news[i * q.2.1 + j]? = some u ∧ u.oneCell' = true ∧ V w S γ ρ true c u ∧
                w.cell? (ad.add (i * q.2.1 + j)) = some u := by
              obtain ⟨L, hL1, hL2⟩ := flat_cells q.2.1 (fun i j => (w.cell? (ad.add (i * q.2.1 + j))).getD undef) y.2.length
              refine ⟨L, hL1, fun i r j c hi hj => ?_⟩
              have hil := (List.getElem?_eq_some_iff.1 hi).1
              have hjl : j < q.2.1 := by have := (List.getElem?_eq_some_iff.1 hj).1; rw [hylen r (List.mem_of_getElem? hi)] at this; omega
              obtain ⟨zz, f1, f2, f3⟩ := hc i r j c hi hj
              rw [hysz] at f1
              exact ⟨zz, by rw [hL2 i j hil hjl, f1]; rfl, f2, f3, f1⟩
            have hpart : ∀ j u, news[j]? = some u → w.cell? (ad.add j) = some u ∧ u.oneCell' = true := fun j u hj => by
              have hjl := (List.getElem?_eq_some_iff.1 hj).1
              rw [hnl] at hjl
              have hdm : j = (j / q.2.1) * q.2.1 + j % q.2.1 := by rw [Nat.mul_comm]; exact (Nat.div_add_mod j q.2.1).symm
              have hm := Nat.mod_lt j hpos'
              have hil : j / q.2.1 < y.2.length := Nat.div_lt_of_lt_mul (by rw [Nat.mul_comm]; exact hjl)
              obtain ⟨r, hr⟩ : ∃ r, y.2[j / q.2.1]? = some r := ⟨_, List.getElem?_eq_getElem hil⟩
              obtain ⟨c, hc⟩ : ∃ c, r[j % q.2.1]? = some c := ⟨_, List.getElem?_eq_getElem (by rw [hylen r (List.mem_of_getElem? hr), hysz]; exact hm)⟩
              obtain ⟨u', f1, f2, _, f4⟩ := hnews _ r _ c hr hc
              rw [← hdm] at f1 f4
              rw [hj] at f1; cases f1
              exact ⟨f4, f2⟩
            have hoff : off * q.2.1 + news.length ≤ rw_.elems.length * rw_.sz := by
              rw [hnl, hszr, ← Nat.add_mul]; exact Nat.mul_le_mul_right _ (by omega)
            obtain ⟨cells', hown', hcur, hget⟩ := own_store hown hoff hh
            have hrun := run_copy_one (P := P) w t t' ty q.1 ie g (off * q.2.1) len c1 ad y.2.length cx cur rw_.ty news htu hti hyl hh (by rw [hnl, hts']) (fun j v hj => (hpart j v hj).1) hcur
              (fun v hv => by obtain ⟨j, hj⟩ := List.getElem?_of_mem hv; exact (hpart j v hj).2)
            unfold Oper.wp
            simp only [execOp, resolve, invoke, Sem.run_bind, Sem.run_pure, Result.andThen_ok, builtin, List.map_toArray, List.map_cons, List.map_nil, hxv, hde, hrun]
            generalize hW : w.setRow g (cur.toList.take (off * q.2.1) ++ news ++ cur.toList.drop (off * q.2.1 + news.length)).toArray = W at *
            have hgrow : w.grownBy W (some g) := by
              subst hW; exact ⟨rfl, rfl, rfl, by simp, fun k hk hne => setRow_other w g k _ (fun e => hne (by rw [e]))⟩
            have hbelow : Below w0.heap.size w0 W := h.below.grown hgrow hw0 (fun k e => by cases e; exact hBg)
            have hstab : ∀ q : Addr, S q.block → ∀ x, w.cell? q = some x → W.cell? q = some x := fun q hq x hx => by
              rw [World.cell?_of_block (hgrow.block q.block (h.sw _ hq) (fun e => hnS q.block e.symm hq))]; exact hx
            have hρset : ρ.set r (.slice (some ⟨g, 0, none⟩) n0 c0) = ρ := by
              apply List.ext_getElem?
              intro k
              by_cases hk : k = r
              · subst hk; rw [List.getElem?_set_self (List.getElem?_eq_some_iff.1 hρ).1]; exact hρ.symm
              · rw [List.getElem?_set_ne (fun e => hk e.symm)]
            have hlaid : (laid rw_.elems off y.2).length = rw_.elems.length := by unfold laid; simp; omega
            have hlget : ∀ i, (laid rw_.elems off y.2)[i]? = if off ≤ i ∧ i < off + y.2.length then y.2[i - off]? else rw_.elems[i]? := fun i => by
              unfold laid
              have h1 : (rw_.elems.take off).length = off := by simp; omega
              by_cases hj : i < off
              · rw [if_neg (by omega), List.append_assoc, List.getElem?_append_left (by omega), List.getElem?_take, if_pos hj]
              · by_cases hj2 : i < off + y.2.length
                · rw [if_pos ⟨by omega, hj2⟩, List.append_assoc, List.getElem?_append_right (by omega), h1, List.getElem?_append_left (by omega)]
                · rw [if_neg (by omega), List.getElem?_append_right (by simp; omega), List.getElem?_drop]
                  congr 1
                  simp; omega
            have hheap := h.heap.setRow (w' := W) (rw' := { rw_ with elems := laid rw_.elems off y.2 }) (v' := .slice (some ⟨g, 0, none⟩) n0 c0) hrow hρ h.sw hgrow (.inl rfl) hpos
              (fun x hx => by
                obtain ⟨i, hi⟩ := List.getElem?_of_mem hx
                simp only at hi
                rw [hlget] at hi
                split at hi
                · rw [hylen x (List.mem_of_getElem? hi), hysz, hszr]
                · exact hlenz x (List.mem_of_getElem? hi)) (cells := cells') (by simpa only [hlaid] using hown')
              (fun k x j c hk hj => by
                simp only at hk
                show ∃ u, cells'[k * rw_.sz + j]? = some u ∧ _
                have hkl : k < rw_.elems.length := by have := (List.getElem?_eq_some_iff.1 hk).1; rw [hlaid] at this; exact this
                rw [hlget] at hk
                have hjl : j < rw_.sz := by
                  have h3 := (List.getElem?_eq_some_iff.1 hj).1
                  split at hk
                  · rw [hylen x (List.mem_of_getElem? hk), hysz] at h3; omega
                  · rw [hlenz x (List.mem_of_getElem? hk)] at h3; exact h3
                have hb : k * rw_.sz + j < rw_.elems.length * rw_.sz := by
                  have : (k + 1) * rw_.sz ≤ rw_.elems.length * rw_.sz := Nat.mul_le_mul_right _ hkl
                  rw [Nat.add_mul] at this; omega
                rw [hget _ hb, hnl, ← Nat.add_mul, hszr]
                rw [hszr] at hjl
                split at hk
                · rename_i hin
                  have l1 : off * q.2.1 ≤ k * q.2.1 := Nat.mul_le_mul_right _ hin.1
                  have l2 : (k + 1) * q.2.1 ≤ (off + y.2.length) * q.2.1 := Nat.mul_le_mul_right _ (by omega)
                  rw [Nat.add_mul, Nat.one_mul] at l2
                  rw [if_pos ⟨by omega, by omega⟩]
                  obtain ⟨u, f1, f2, f3, _⟩ := hnews _ x j c hk hj
                  refine ⟨u, ?_, f2, f3⟩
                  rw [show k * q.2.1 + j - off * q.2.1 = (k - off) * q.2.1 + j by rw [Nat.sub_mul]; omega]
                  exact f1
                · rename_i hin
                  rw [if_neg]
                  · have := hcv k x j c hk hj
                    rw [hszr] at this
                    exact this
                  · rintro ⟨l1, l2⟩
                    apply hin
                    constructor
                    · rcases Nat.lt_or_ge k off with hlt | hge
                      · have : (k + 1) * q.2.1 ≤ off * q.2.1 := Nat.mul_le_mul_right _ hlt
                        rw [Nat.add_mul] at this; omega
                      · exact hge
                    · rcases Nat.lt_or_ge k (off + y.2.length) with hlt | hge
                      · exact hlt
                      · have : (off + y.2.length) * q.2.1 ≤ k * q.2.1 := Nat.mul_le_mul_right _ hge
                        omega)
              st.boxes rfl (fun k cs' hk => ⟨cs', hk, rfl, fun j c' c u h1 h2 hv => by rw [h1] at h2; cases h2; rw [hρset]; exact hv⟩)
            rw [hρset] at hheap
            refine hn _ _ _ hK ⟨S, γ, ρ, RelAt.put (st := { st with rows := st.rows.set r (some { rw_ with elems := laid rw_.elems off y.2 }) }) ⟨hbelow, h.s0, fun b hb => Nat.lt_of_lt_of_le (h.sw b hb) hgrow.size, hheap, h.size, h.defs, fun s => (h.env s).mono hstab (fun _ h => h) (fun _ _ h => h) (fun _ _ h => h)⟩ (dok_spec hd) .lit⟩
        · cases hp
      · cases hp
      · cases hp
    · cases hp
  · cases hp

def aopsZ (P : Program) (n : Nat) (gs : Nat → Option Nat) : List Oper → List (List Nat) → ASt → (ASt → Prop) → Prop
  | [], _, st, K => K st
  | o :: os, d :: dd, st, K => ∃ st1, (st1 = st ∨ ∃ keep, st1 = st.freeze keep) ∧
      ((aop P n gs o st1 fun st' => aopsZ P n gs os dd (st'.drop d) K) ∨ (aopN P n o st1 fun st' => aopsZ P n gs os dd (st'.drop d) K) ∨ (aopX P n o st1 fun st' => aopsZ P n gs os dd (st'.drop d) K) ∨
        (aopZ P n o st1 fun st' => aopsZ P n gs os dd (st'.drop d) K) ∨ (aopZ0 P n o st1 fun st' => aopsZ P n gs os dd (st'.drop d) K))
  | _ :: _, [], _, _ => False

theorem aopsZ_sound {w0 : World} {S0 : Nat → Prop} {all : List Oper} {K : ASt → Prop} {Q : Exit → Act → World → Prop} (hn : ∀ st' a' w', K st' → Rel w0 S0 n st' a' w' → Q .normal a' w') :
    ∀ (l : List Oper) (dd : List (List Nat)) (st : ASt) (a : Act) (w : World), Rel w0 S0 n st a w → aopsZ P n (gslot all) l dd st K → wpList P all.toArray Q l a w
  | [], _, st, a, w, h, hp => by
    unfold wpList
    exact hn _ _ _ hp h
  | _ :: _, [], _, _, _, _, hp => hp.elim
  | o :: os, d :: dd, st, a, w, h, hp => by
    obtain ⟨st1, e, hp⟩ := hp
    have h1 : Rel w0 S0 n st1 a w := by
      rcases e with rfl | ⟨keep, rfl⟩
      · exact h
      · exact h.freeze keep
    rcases hp with hp | hp | hp | hp | hp
    · exact aop_sound h1 hp fun st' a' w' hK hr => aopsZ_sound hn os dd _ a' w' (hr.drop d) hK
    · exact aopN_sound h1 hp fun st' a' w' hK hr => aopsZ_sound hn os dd _ a' w' (hr.drop d) hK
    · exact aopX_sound h1 hp fun st' a' w' hK hr => aopsZ_sound hn os dd _ a' w' (hr.drop d) hK
    · exact aopZ_sound h1 hp fun st' a' w' hK hr => aopsZ_sound hn os dd _ a' w' (hr.drop d) hK
    · exact aopZ0_sound h1 hp fun st' a' w' hK hr => aopsZ_sound hn os dd _ a' w' (hr.drop d) hK

theorem aopsZ_cons {gs : Nat → Option Nat} {d : List Nat} {dd : List (List Nat)} {o : Oper} {os : List Oper} {st : ASt} {K : ASt → Prop} (h : ∀ K' : ASt → Prop, (∀ s, aopsZ P n gs os dd (s.drop d) K → K' s) → aop P n gs o st K') : aopsZ P n gs (o :: os) (d :: dd) st K :=
  ⟨st, .inl rfl, .inl (h _ fun _ h => h)⟩
theorem aopsZ_consN {gs : Nat → Option Nat} {d : List Nat} {dd : List (List Nat)} {o : Oper} {os : List Oper} {st : ASt} {K : ASt → Prop} (h : ∀ K' : ASt → Prop, (∀ s, aopsZ P n gs os dd (s.drop d) K → K' s) → aopN P n o st K') : aopsZ P n gs (o :: os) (d :: dd) st K :=
  ⟨st, .inl rfl, .inr (.inl (h _ fun _ h => h))⟩
theorem aopsZ_consZ {gs : Nat → Option Nat} {d : List Nat} {dd : List (List Nat)} {o : Oper} {os : List Oper} {st : ASt} {K : ASt → Prop} (h : ∀ K' : ASt → Prop, (∀ s, aopsZ P n gs os dd (s.drop d) K → K' s) → aopZ P n o st K') : aopsZ P n gs (o :: os) (d :: dd) st K :=
  ⟨st, .inl rfl, .inr (.inr (.inr (.inl (h _ fun _ h => h))))⟩
theorem aopsZ_consZ0 {gs : Nat → Option Nat} {d : List Nat} {dd : List (List Nat)} {o : Oper} {os : List Oper} {st : ASt} {K : ASt → Prop} (h : ∀ K' : ASt → Prop, (∀ s, aopsZ P n gs os dd (s.drop d) K → K' s) → aopZ0 P n o st K') : aopsZ P n gs (o :: os) (d :: dd) st K :=
  ⟨st, .inl rfl, .inr (.inr (.inr (.inr (h _ fun _ h => h))))⟩
theorem aopsZ_nil {gs : Nat → Option Nat} {dd : List (List Nat)} {st : ASt} {K : ASt → Prop} (h : K st) : aopsZ P n gs [] dd st K := h

theorem AWp.regionZ {id : Nat} {l : List Oper} {Q : Exit → ASt → Prop} {st : ASt} (d : List Nat) (dd : List (List Nat)) (h : aopsZ P n (gslot l) l dd (st.drop d) (Q .normal)) : AWp P n (.region id l.toArray false) Q st := fun w0 S0 a w hr =>
  wp_region_lit (aopsZ_sound (fun st' a' w' h1 h2 => ⟨_, h1, h2⟩) l _ _ a w (hr.drop _) h)
theorem AWp.sregZ {id : Nat} {l : List Oper} {y : Code} {Q : Exit → ASt → Prop} {st : ASt} (D : Nat → List (List Nat)) {d : List Nat} {dd : List (List Nat)} (hd : D id = d :: dd)
    (h : ∀ (gs : Nat → Option Nat) (K : ASt → Prop), (∀ j, gs j = gslot l j) → (∀ s, AWp P n y Q s → K s) → aopsZ P n gs l dd (st.drop d) K) :
    AWp P n (.seq (.region id l.toArray false) y) Q st := AWp.seq (AWp.regionZ d dd (h (gslot l) (fun s => AWp P n y Q s) (fun _ => rfl) fun s h => h))
theorem AWp.regZ {id : Nat} {l : List Oper} {Q : Exit → ASt → Prop} {st : ASt} (D : Nat → List (List Nat)) {d : List Nat} {dd : List (List Nat)} (hd : D id = d :: dd)
    (h : ∀ (gs : Nat → Option Nat) (K : ASt → Prop), (∀ j, gs j = gslot l j) → (∀ s, Q .normal s → K s) → aopsZ P n gs l dd (st.drop d) K) :
    AWp P n (.region id l.toArray false) Q st := AWp.regionZ d dd (h (gslot l) (fun s => Q .normal s) (fun _ => rfl) fun s h => h)
end Go.AL

namespace Go.AL
open Go.RowKit
set_option linter.unusedSimpArgs false
set_option linter.unusedVariables false

variable {P : Program} {n : Nat}

/-! ### a drawn region, in each of its orders -/
def allLin (ops : Array Oper) : Nat → Array Bool → List (List Nat)
  | 0, _ => [[]]
  | fuel + 1, listed => match Region.ready .any ops listed with
    | [] => [[]]
    | r :: rs => (r :: rs).flatMap fun i => (allLin ops fuel (listed.setIfInBounds i true)).map (i :: ·)
def pickL (l : List Oper) : List Nat → List Oper
  | [] => []
  | i :: is => match l[i]? with
    | some o => o :: pickL l is
    | none => pickL l is
def noDrops : List Nat → List (List Nat)
  | [] => []
  | _ :: is => [] :: noDrops is
def allE {α : Type} : List α → (α → Prop) → Prop
  | [], _ => True
  | x :: xs, p => p x ∧ allE xs p
theorem allE_mem {α : Type} {p : α → Prop} : ∀ {l : List α}, allE l p → ∀ x ∈ l, p x
  | [], _, x, hx => by cases hx
  | y :: l, h, x, hx => by
    rcases List.mem_cons.1 hx with rfl | hx
    · exact h.1
    · exact allE_mem h.2 x hx
theorem lin_mem (ops : Array Oper) : ∀ (fuel t : Nat) (listed : Array Bool), Region.linearise.go .any ops fuel t listed [] ∈ allLin ops fuel listed
  | 0, t, listed => by simp [Region.linearise.go, allLin]
  | fuel + 1, t, listed => by
    simp only [Region.linearise.go]
    change (match (Region.ready .any ops listed)[t % (Region.ready .any ops listed).length]? with
      | some i => Region.linearise.go .any ops fuel (t / (Region.ready .any ops listed).length) (listed.setIfInBounds i true) [i]
      | none => [].reverse) ∈ _
    unfold allLin
    cases hr : Region.ready .any ops listed with
    | nil => simp
    | cons r rs =>
      have hlt : t % (r :: rs).length < (r :: rs).length := Nat.mod_lt _ (by simp)
      rw [List.getElem?_eq_getElem hlt]
      simp only
      rw [linearise_go_acc, List.reverse_singleton, List.singleton_append, List.mem_flatMap]
      exact ⟨_, List.getElem_mem hlt, List.mem_map.2 ⟨_, lin_mem ops fuel _ _, rfl⟩⟩
theorem wpOps_pick {ops : List Oper} {Q : Exit → Act → World → Prop} : ∀ (is : List Nat) (a : Act) (w : World), wpList P ops.toArray Q (pickL ops is) a w → wpOps P ops.toArray Q is a w
  | [], a, w, h => h
  | i :: is, a, w, h => by
    unfold wpOps
    unfold pickL at h
    simp only [List.getElem?_toArray]
    cases ho : ops[i]? with
    | none =>
      rw [ho] at h
      exact wpOps_pick is a w h
    | some o =>
      rw [ho] at h
      unfold wpList at h
      simp only
      split at h
      · rename_i hw
        rw [if_pos hw]
        exact h.imp (Oper.wp_mono fun a w => wpOps_pick is a w) id
      · rename_i hw
        rw [if_neg hw]
        exact wpOps_pick is _ w h
def allO (P : Program) (n : Nat) (gs : Nat → Option Nat) (l : List Oper) (st : ASt) (K : ASt → Prop) : List (List Nat) → Prop
  | [] => True
  | o :: os => aops P n gs (pickL l o) (noDrops o) st K ∧ allO P n gs l st K os
theorem allO_cons {gs : Nat → Option Nat} {l : List Oper} {st : ASt} {K : ASt → Prop} {o : List Nat} {os : List (List Nat)} (h1 : aops P n gs (pickL l o) (noDrops o) st K) (h2 : allO P n gs l st K os) : allO P n gs l st K (o :: os) := ⟨h1, h2⟩
theorem allO_nil {gs : Nat → Option Nat} {l : List Oper} {st : ASt} {K : ASt → Prop} : allO P n gs l st K [] := trivial
theorem allO_all {gs : Nat → Option Nat} {l : List Oper} {st : ASt} {K : ASt → Prop} : ∀ {os : List (List Nat)}, allO P n gs l st K os → allE os fun o => aops P n gs (pickL l o) (noDrops o) st K
  | [], _ => trivial
  | _ :: _, h => ⟨h.1, allO_all h.2⟩
theorem AWp.regionE {id : Nat} {l : List Oper} {Q : Exit → ASt → Prop} {st : ASt} (F : List Nat) (os : List (List Nat)) (hm : P.follows .mixedOrders = true) (hos : allLin l.toArray l.length (Array.replicate l.length false) = os)
    (h : allE os fun o => aops P n (gslot l) (pickL l o) (noDrops o) st fun s => Q .normal (s.prune F)) : AWp P n (.region id l.toArray true) Q st := fun w0 S0 a w ⟨S, γ, ρ, hr⟩ => by
  refine wp_region_draw fun t => ?_
  simp only [Region.schedule, hm, Bool.true_or, if_true]
  have hb : Below w.heap.size w { w with drawn := w.drawn + 1 } := ⟨rfl, rfl, rfl, Nat.le_refl _, fun _ _ => rfl⟩
  have hr2 : Rel w0 S0 n st a { w with drawn := w.drawn + 1 } := ⟨S, γ, ρ, hr.later hb (fun _ h => h) (fun _ h => .inl h)⟩
  have hmem := lin_mem l.toArray l.length t (Array.replicate l.length false)
  rw [hos] at hmem
  have hp := allE_mem h _ hmem
  refine wpOps_pick _ a _ ?_
  have hs : l.toArray.size = l.length := by simp
  unfold Region.linearise
  rw [hs]
  exact aops_sound (Q := fun e a' w' => ∃ st', Q e st' ∧ Rel w0 S0 n st' a' w') (fun st' a' w' hK hr' => ⟨_, hK, hr'.prune F⟩) _ _ _ a _ hr2 hp
theorem AWp.regE {id : Nat} {l : List Oper} {Q : Exit → ASt → Prop} {st : ASt} (F : Nat → List Nat) (os : List (List Nat)) (hm : P.follows .mixedOrders = true) (hos : allLin l.toArray l.length (Array.replicate l.length false) = os)
    (h : ∀ (gs : Nat → Option Nat) (K : ASt → Prop), (∀ j, gs j = gslot l j) → (∀ s, Q .normal (s.prune (F id)) → K s) → allO P n gs l st K os) : AWp P n (.region id l.toArray true) Q st :=
  AWp.regionE (F id) os hm hos (allO_all <| h (gslot l) (fun s => Q .normal (s.prune (F id))) (fun _ => rfl) fun s h => h)
theorem AWp.sregE {id : Nat} {l : List Oper} {y : Code} {Q : Exit → ASt → Prop} {st : ASt} (F : Nat → List Nat) (os : List (List Nat)) (hm : P.follows .mixedOrders = true) (hos : allLin l.toArray l.length (Array.replicate l.length false) = os)
    (h : ∀ (gs : Nat → Option Nat) (K : ASt → Prop), (∀ j, gs j = gslot l j) → (∀ s, AWp P n y Q (s.prune (F id)) → K s) → allO P n gs l st K os) : AWp P n (.seq (.region id l.toArray true) y) Q st :=
  AWp.seq (AWp.regionE (F id) os hm hos (allO_all <| h (gslot l) (fun s => AWp P n y Q (s.prune (F id))) (fun _ => rfl) fun s h => h))
end Go.AL

open Go Go.AL in
attribute [go_sem] aopZ aopZ0
