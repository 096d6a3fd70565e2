/-
  The abstract layer: append of zeros to nil, the room of a slice, copy; drawn regions by a plan. Over whatever program.
-/
import Derived.Test.YtjeehkdepoiegaaGreatAbsPQ
import Derived.Laws.CopyRow
import Derived.OrdersHeld
set_option linter.unusedSimpArgs false
set_option linter.unusedVariables false
set_option linter.constructorNameAsVariable false
namespace Go.AL
open Go.RowKit
set_option linter.unusedSimpArgs false
set_option linter.unusedVariables false
variable {P : Program} {n : Nat}
/-! ### append of zeros to nil, the room of a slice, copy into what is the call's own -/
def laid (xs : List (List AV)) (off : Nat) (ys : List (List AV)) : List (List AV) := xs.take off ++ ys ++ xs.drop (off + ys.length)
def aopZ (P : Program) (n : Nat) (o : Oper) (st : ASt) (K : ASt → Prop) : Prop :=
  dok n o.dst ∧ o.guard = none ∧
  match o.op with
  | .call ⟨.builtin .cap, args, ts⟩ =>
    match args.toList, ts.toList with
    | [x], [t] => uok true (evA st.env x) ∧ (elS P t).isSome = true ∧
      (match un (evA st.env x) with
      | .lit (.slice _ _ c) => K (st.put o.dst (.lit (.int .i64 c)))
      | _ => False)
    | _, _ => False
  | .call ⟨.builtin .append, args, ts⟩ =>
    match args.toList, ts.toList with
    | [s, x], [t, t'] => (cvT P t' t').isSome = true ∧ uok true (evA st.env s) ∧ uok true (evA st.env x) ∧
      (match apT P t, zeroL P (match apT P t with | some q => q.1 | none => 0), un (evA st.env s), un (evA st.env x) with
      | some q, some z, .lit (.slice none 0 0), .lit (.int _ m) => 0 < m ∧ m * q.2.2 ≤ 140737488355328 ∧ (z.all fun v => v.oneCell') = true ∧
          K (ASt.put { st with rows := st.rows ++ [some ⟨q.1, q.2.1, List.replicate m.toNat (z.map .lit)⟩] } o.dst (.own st.rows.length q.2.1 0 m.toNat))
      | _, _, _, _ => False)
    | _, _ => False
  | .call ⟨.builtin .copy, args, ts⟩ =>
    match args.toList, ts.toList with
    | [d, x], [t, t'] => uok true (evA st.env d) ∧ uok true (evA st.env x) ∧
      (match apT P t, un (evA st.env d), elemsOf st.rows (un (evA st.env x)) with
      | some q, .own r sz off len, some y => match getRow st.rows r sz with
        | some rw_ => sz = q.2.1 ∧ y.1 = q.2.1 ∧ 0 < y.2.length ∧ y.2.length ≤ len ∧ off + len ≤ rw_.elems.length ∧
            K (ASt.put { st with rows := st.rows.set r (some { rw_ with elems := laid rw_.elems off y.2 }) } o.dst (.lit (.int .i64 y.2.length)))
        | none => False
      | some q, .own r sz off len, none => False
      | _, _, _ => False)
    | _, _ => False
  | _ => False
def aopZ0 (P : Program) (n : Nat) (o : Oper) (st : ASt) (K : ASt → Prop) : Prop :=
  dok n o.dst ∧ o.guard = none ∧
  match o.op with
  | .call ⟨.builtin .copy, args, ts⟩ =>
    match args.toList, ts.toList with
    | [d, x], [t, t'] => uok true (evA st.env d) ∧ uok true (evA st.env x) ∧
      (match apT P t, un (evA st.env d), elemsOf st.rows (un (evA st.env x)) with
      | some q, .own r sz off len, some y => y.2 = [] ∧ K (st.put o.dst (.lit (.int .i64 0)))
      | _, _, _ => False)
    | _, _ => False
  | _ => False
theorem run_append_zeros (w : World) (t tn ty e : TypeId) (i : TypeInfo) (z : Value) (k kn : IntKind) (ht : P.underlying t = some (.slice e)) (htn : P.underlying tn = some (.int kn)) (hi : P.info? e = some i) (hz : i.zero = some z)
    (n : Nat) (h0 : 0 < n) (hs : 0 < i.size) (h63 : (n : Int) ≤ 9223372036854775807) (h48 : n * i.bytes ≤ 281474976710656) :
    (Builtin.append_ #[t, tn] ty #[.slice none 0 0, .int k n]).run P w =
      .ok (.slice (some ⟨w.heap.size, 0, none⟩) n (grownCap w n 0 e)) (w.drew.alloc (.cells (Builtin.zeroCells z.cells n ++ Builtin.zeroCells z.cells (grownCap w n 0 e - n)) e)) := by
  have e1 : IntKind.i64.wrap (n : Int) = n := wrap_id (by omega) h63
  have e2 : ¬ ((n : Int) < 0) := by omega
  have e3 : ¬ (281474976710656 < (n : Int) * (i.bytes : Int)) := by rw [← Int.natCast_mul]; omega
  have e4 : ¬ (281474976710656 < Builtin.nextslicecap n 0 * i.bytes) := by rw [nextslicecap_zero h0]; omega
  have e5 : ¬ (9223372036854775807 < (n : Int)) := by omega
  have e6 : ¬ (n * i.size = 0) := Nat.mul_ne_zero (by omega) (by omega)
  have e7 : n ≠ 0 := by omega
  simp [Builtin.append_, run_underlying ht, run_underlying htn, sizeOf, typeInfo, zeroValue, hi, hz, asInt, asIntOf, e1, e2, e3, e4, e5, e6, e7, Question.forced, run_firstCells_none, newRow, grownCap]
theorem run_copy_one (w : World) (dT sT ty elem : TypeId) (i : TypeInfo) (g o dLen dCap : Nat) (a : Addr) (sLen sCap : Nat) (cur : Array Value) (t : TypeId) (cs : List Value)
    (hu : P.underlying dT = some (.slice elem)) (hi : P.info? elem = some i) (hle : sLen ≤ dLen)
    (hg : w.heap[g]? = some (.cells cur t (0, 0))) (hn : cs.length = sLen * i.size)
    (hsrc : ∀ j v, cs[j]? = some v → w.cell? (a.add j) = some v) (hfit : o + cs.length ≤ cur.size) (h1 : ∀ v ∈ cs, v.oneCell' = true) :
    (Builtin.copy_ #[dT, sT] ty #[.slice (some ⟨g, o, none⟩) dLen dCap, .slice (some a) sLen sCap]).run P w =
      .ok (.int .i64 sLen) (w.setRow g (cur.toList.take o ++ cs ++ cur.toList.drop (o + cs.length)).toArray) := by
  have hl := run_firstCells_some (P := P) w i.size sLen a sLen sCap cs hn hsrc
  have hst := run_storeCells_at P g o t cs 0 cur w hg (by simpa using hfit) h1
  have hmin : Nat.min sLen dLen = sLen := Nat.min_eq_left hle
  simp only [Nat.add_zero] at hst
  simp [Builtin.copy_, run_underlying hu, Builtin.lenOf, sizeOf, typeInfo, hi, hmin, hl, hst, goInt]
theorem run_copy_zero (w : World) (dT sT ty elem : TypeId) (i : TypeInfo) (A : Option Addr) (dLen dCap : Nat) (B : Option Addr) (sCap : Nat)
    (hu : P.underlying dT = some (.slice elem)) (hi : P.info? elem = some i) :
    (Builtin.copy_ #[dT, sT] ty #[.slice A dLen dCap, .slice B 0 sCap]).run P w = .ok (.int .i64 0) w := by
  have hm : Nat.min 0 dLen = 0 := Nat.min_eq_left (Nat.zero_le _)
  cases A <;> cases B <;> simp [Builtin.copy_, run_underlying hu, Builtin.lenOf, Builtin.firstCells, sizeOf, typeInfo, hi, hm, goInt, loadCells, loadCellsFrom, storeCells]
theorem zeroCells_get (z : Array Value) (m i j : Nat) (hi : i < m) (hj : j < z.size) : (Builtin.zeroCells z m).toList[i * z.size + j]? = z[j]? := by
  have hlt : i * z.size + j < m * z.size := by
    have : (i + 1) * z.size ≤ m * z.size := Nat.mul_le_mul_right _ hi
    rw [Nat.add_mul] at this; omega
  unfold Builtin.zeroCells
  simp only [Array.toList_map, Array.toList_range, List.getElem?_map]
  rw [List.getElem?_range hlt]
  simp only [Option.map_some]
  rw [Nat.mul_add_mod_self_right, Nat.mod_eq_of_lt hj]
  simp [hj]
theorem aopZ0_sound {w0 : World} {S0 : Stab} {all : List Oper} {o : Oper} {rest : List Oper} {st : ASt} {a : Act} {w : World} {K : ASt → Prop} {Q : Exit → Act → World → Prop} (h : Rel w0 S0 n st a w)
    (hp : aopZ0 P n o st K) (hn : ∀ st' a' w', K st' → Rel w0 S0 n st' a' w' → wpList P all.toArray Q rest a' w') : wpList P all.toArray Q (o :: rest) a w := by
  obtain ⟨S, γ, ρ, h⟩ := h
  obtain ⟨hd, hg, hp⟩ := hp
  obtain ⟨dst, op, ty, pos, after, guard⟩ := o
  simp only at hp hg hd
  subst hg
  have hw : Region.wanted ⟨dst, op, ty, pos, after, none⟩ (yielded all.toArray a.tmps) = true := by simp [Region.wanted]
  unfold wpList
  rw [if_pos hw]
  left
  split at hp
  · rename_i args ts
    split at hp
    · rename_i d x t t' hargs hts
      obtain ⟨hud, hux, hp⟩ := hp
      split at hp
      · rename_i q r sz off len y hq hdv hy
        obtain ⟨hye, hK⟩ := hp
        obtain ⟨ie, zv, htu, hti, htz, hts', htb, hzs, hpos, hbpos⟩ := apT_spec hq
        have hae : args = #[d, x] := by apply Array.ext'; simpa using hargs
        have hte : ts = #[t, t'] := by apply Array.ext'; simpa using hts
        subst hae; subst hte
        have vx := (h.ev x).un rfl hux
        have vd := (h.ev d).un rfl hud
        rw [hdv] at vd
        obtain ⟨A, cx, hxv, _, _⟩ := elems_cells h.heap vx hy
        rw [hye, List.length_nil] at hxv
        generalize hde : a.eval d = ud at vd
        cases vd with
        | own hρ h0 hlen h1 hm hA =>
          rename_i A1 c1 A0 n0 c0
          have hrun := run_copy_zero (P := P) w t t' ty q.1 ie A1 len c1 A cx htu hti
          unfold Oper.wp
          simp only [execOp, resolve, invoke, Sem.run_bind, Sem.run_pure, Result.andThen_ok, builtin, List.map_toArray, List.map_cons, List.map_nil, hxv, hde, hrun]
          exact hn _ _ _ hK ⟨S, γ, ρ, h.put (dok_spec hd) .lit⟩
      · cases hp
    · cases hp
  · cases hp
theorem aopZ_sound {w0 : World} {S0 : Stab} {all : List Oper} {o : Oper} {rest : List Oper} {st : ASt} {a : Act} {w : World} {K : ASt → Prop} {Q : Exit → Act → World → Prop} (h : Rel w0 S0 n st a w)
    (hp : aopZ P n o st K) (hn : ∀ st' a' w', K st' → Rel w0 S0 n st' a' w' → wpList P all.toArray Q rest a' w') : wpList P all.toArray Q (o :: rest) a w := by
  obtain ⟨S, γ, ρ, h⟩ := h
  obtain ⟨hd, hg, hp⟩ := hp
  obtain ⟨dst, op, ty, pos, after, guard⟩ := o
  simp only at hp hg hd
  subst hg
  have hw0 := h.below.size
  have hw : Region.wanted ⟨dst, op, ty, pos, after, none⟩ (yielded all.toArray a.tmps) = true := by simp [Region.wanted]
  unfold wpList
  rw [if_pos hw]
  left
  split at hp
  · -- cap
    rename_i args ts
    split at hp
    · rename_i x t hargs hts
      obtain ⟨hux, ht, hp⟩ := hp
      have hae : args = #[x] := by apply Array.ext'; simpa using hargs
      have hte : ts = #[t] := by apply Array.ext'; simpa using hts
      subst hae; subst hte
      obtain ⟨sz, hs⟩ := Option.isSome_iff_exists.1 ht
      obtain ⟨e, hu, _⟩ := elS_spec hs
      have vx := (h.ev x).un rfl hux
      split at hp
      · rename_i A m c hxv
        rw [hxv] at vx
        have hxe := vx.lit_eq
        have hrun : (Builtin.cap_ #[t] ty #[.slice A m c]).run P w = .ok (.int .i64 c) w := by simp [Builtin.cap_, run_underlying hu, goInt]
        unfold Oper.wp
        simp only [execOp, resolve, invoke, Sem.run_bind, Sem.run_pure, Result.andThen_ok, builtin, List.map_toArray, List.map_cons, List.map_nil, hxe, hrun]
        exact hn _ _ _ hp ⟨S, γ, ρ, h.put (dok_spec hd) .lit⟩
      · cases hp
    · cases hp
  · -- append of zeros
    rename_i args ts
    split at hp
    · rename_i s x t t' hargs hts
      obtain ⟨hint, hus, hux, hp⟩ := hp
      have hae : args = #[s, x] := by apply Array.ext'; simpa using hargs
      have hte : ts = #[t, t'] := by apply Array.ext'; simpa using hts
      subst hae; subst hte
      have vx := (h.ev x).un rfl hux
      have vs := (h.ev s).un rfl hus
      split at hp
      · rename_i q z k m hq hz hsv hxv
        obtain ⟨h0, hbytes, hz1, hK⟩ := hp
        rw [hq] at hz
        rw [hsv] at vs; rw [hxv] at vx
        have hse := vs.lit_eq; have hxe := vx.lit_eq
        obtain ⟨ie, zv, htu, hti, htz, hts', htb, hzs, hpos, hbpos⟩ := apT_spec hq
        obtain ⟨ie', zv', hi', hz', rfl⟩ := zeroL_spec hz
        rw [hti] at hi'; cases hi'
        rw [htz] at hz'; cases hz'
        obtain ⟨kn, hkn⟩ : ∃ kn, P.underlying t' = some (.int kn) := by
          obtain ⟨k1, hk1⟩ := Option.isSome_iff_exists.1 hint
          unfold cvT at hk1
          split at hk1
          · exact ⟨_, by assumption⟩
          · cases hk1
        have hm : ((m.toNat : Nat) : Int) = m := Int.toNat_of_nonneg (by omega)
        have hb2 : m.toNat * ie.bytes ≤ 140737488355328 := by
          have : ((m.toNat * ie.bytes : Nat) : Int) ≤ 140737488355328 := by rw [Int.natCast_mul, hm, htb]; exact hbytes
          omega
        have hmx : m.toNat ≤ 140737488355328 := by
          have : m.toNat * 1 ≤ m.toNat * ie.bytes := Nat.mul_le_mul_left _ (by omega)
          omega
        have hmax : m.toNat ≤ maxLen := by unfold maxLen; omega
        have hrun := run_append_zeros (P := P) w t t' ty q.1 ie zv k kn htu hkn hti htz m.toNat (by omega) (by omega) (by omega) (by omega)
        rw [hm] at hrun
        have hge := grownCap_ge w m.toNat 0 q.1
        have hcm : grownCap w m.toNat 0 q.1 ≤ maxLen := grownCap_le_maxLen w m.toNat 0 q.1 hmax
        generalize hcap : grownCap w m.toNat 0 q.1 = cap at *
        generalize hW : w.drew.alloc (.cells (Builtin.zeroCells zv.cells m.toNat ++ Builtin.zeroCells zv.cells (cap - m.toNat)) q.1) = W at *
        have hgrow : w.grownBy W none := by subst hW; exact ⟨rfl, rfl, rfl, by simp, fun k hk _ => heap_alloc_old w.drew _ hk⟩
        have hb : Below w.heap.size w W := (Below.refl _ _).grown hgrow (Nat.le_refl _) (fun k e => by cases e)
        have hzl : (Builtin.zeroCells zv.cells m.toNat).toList.length = m.toNat * q.2.1 := by rw [Array.length_toList, size_zeroCells, hzs]
        have hown : W.ownsRow w0.heap.size q.1 q.2.1 (.slice (some ⟨w.heap.size, 0, none⟩) m.toNat cap) m.toNat (Builtin.zeroCells zv.cells m.toNat).toList := by
          refine ⟨hzl, .inr ⟨w.heap.size, cap, Builtin.zeroCells zv.cells m.toNat ++ Builtin.zeroCells zv.cells (cap - m.toNat), rfl, hw0, ?_, hge, hcm, ?_, ?_⟩⟩
          · subst hW; exact heap_alloc_new w.drew _
          · rw [Array.size_append, size_zeroCells, size_zeroCells, hzs, ← Nat.add_mul]; congr 1; omega
          · rw [Array.toList_append, ← hzl]; exact List.take_left
        unfold Oper.wp
        simp only [execOp, resolve, invoke, Sem.run_bind, Sem.run_pure, Result.andThen_ok, builtin, List.map_toArray, List.map_cons, List.map_nil, hxe, hse, hrun]
        refine hn _ _ _ hK ⟨S, γ, ρ ++ [.slice (some ⟨w.heap.size, 0, none⟩) m.toNat cap], RelAt.put (h.newRow (rw_ := ⟨q.1, q.2.1, List.replicate m.toNat (zv.cells.toList.map .lit)⟩) (v := .slice (some ⟨w.heap.size, 0, none⟩) m.toNat cap) hb hpos (fun x hx => ?_) (fun g hg => ?_) (by simpa using hown) (fun i x j c hi hj => ?_)) (dok_spec hd) ?_⟩
        · rw [List.eq_of_mem_replicate hx]; simpa using hzs
        · simp [Value.ownBlock] at hg; omega
        · have hil := (List.getElem?_eq_some_iff.1 hi).1
          simp only [List.length_replicate] at hil
          simp only [List.getElem?_replicate, if_pos hil, Option.some.injEq] at hi
          subst hi
          rw [List.getElem?_map] at hj
          obtain ⟨y, hy, rfl⟩ := Option.map_eq_some_iff.1 hj
          have hjl : j < zv.cells.size := by have := (List.getElem?_eq_some_iff.1 hy).1; simpa using this
          refine ⟨y, ?_, List.all_eq_true.1 hz1 y (List.mem_of_getElem? hy), .lit⟩
          have := zeroCells_get zv.cells m.toNat i j hil hjl
          rw [hzs] at this
          rw [this]; simpa using hy
        · refine V.own (A0 := some ⟨w.heap.size, 0, none⟩) (n0 := m.toNat) (c0 := cap) (by rw [← h.heap.nr]; simp) (fun _ => ⟨rfl, rfl⟩) hge (by omega) hcm (fun _ => ⟨w.heap.size, rfl, by simp⟩)
      · cases hp
    · cases hp
  · -- copy
    rename_i args ts
    split at hp
    · rename_i d x t t' hargs hts
      obtain ⟨hud, hux, hp⟩ := hp
      have hae : args = #[d, x] := by apply Array.ext'; simpa using hargs
      have hte : ts = #[t, t'] := by apply Array.ext'; simpa using hts
      subst hae; subst hte
      split at hp
      · rename_i q r sz off len y hq hdv hy
        split at hp
        · rename_i rw_ hgr
          obtain ⟨rfl, hysz, hy0, hyl, hfit, hK⟩ := hp
          obtain ⟨hrow, hszr⟩ := getRow_spec hgr
          obtain ⟨ie, zv, htu, hti, htz, hts', htb, hzs, hpos', hbpos⟩ := apT_spec hq
          have vx := (h.ev x).un rfl hux
          have vd := (h.ev d).un rfl hud
          rw [hdv] at vd
          obtain ⟨A, cx, hxv, hylen, hycell⟩ := elems_cells h.heap vx hy
          obtain ⟨ad, hA, hc⟩ := hycell (by intro e; rw [e] at hy0; simp at hy0)
          subst hA
          generalize hde : a.eval d = ud at vd
          cases vd with
          | own hρ h0 hlen h1 hm hAd =>
            rename_i A1 c1 A0 n0 c0
            obtain ⟨g, rfl, rfl⟩ := hAd (by omega)
            obtain ⟨hpos, hlenz, hnS, cells, hown, hcv⟩ := h.heap.row r rw_ _ hrow hρ
            obtain ⟨_, hBg, _, _, cur, hh, hcsz, hct⟩ := own_cells hown
            -- the cells that go over
            obtain ⟨news, hnl, hnews⟩ : ∃ news : List Value, news.length = y.2.length * q.2.1 ∧ ∀ i r j c, y.2[i]? = some r → r[j]? = some c → ∃ u, news[i * q.2.1 + j]? = some u ∧ u.oneCell' = true ∧ V w S γ ρ true c u ∧
                w.cell? (ad.add (i * q.2.1 + j)) = some u := by
              obtain ⟨L, hL1, hL2⟩ := flat_cells q.2.1 (fun i j => (w.cell? (ad.add (i * q.2.1 + j))).getD undef) y.2.length
              refine ⟨L, hL1, fun i r j c hi hj => ?_⟩
              have hil := (List.getElem?_eq_some_iff.1 hi).1
              have hjl : j < q.2.1 := by have := (List.getElem?_eq_some_iff.1 hj).1; rw [hylen r (List.mem_of_getElem? hi)] at this; omega
              obtain ⟨zz, f1, f2, f3⟩ := hc i r j c hi hj
              rw [hysz] at f1
              exact ⟨zz, by rw [hL2 i j hil hjl, f1]; rfl, f2, f3, f1⟩
            have hpart : ∀ j u, news[j]? = some u → w.cell? (ad.add j) = some u ∧ u.oneCell' = true := fun j u hj => by
              have hjl := (List.getElem?_eq_some_iff.1 hj).1
              rw [hnl] at hjl
              have hdm : j = (j / q.2.1) * q.2.1 + j % q.2.1 := by rw [Nat.mul_comm]; exact (Nat.div_add_mod j q.2.1).symm
              have hm := Nat.mod_lt j hpos'
              have hil : j / q.2.1 < y.2.length := Nat.div_lt_of_lt_mul (by rw [Nat.mul_comm]; exact hjl)
              obtain ⟨r, hr⟩ : ∃ r, y.2[j / q.2.1]? = some r := ⟨_, List.getElem?_eq_getElem hil⟩
              obtain ⟨c, hc⟩ : ∃ c, r[j % q.2.1]? = some c := ⟨_, List.getElem?_eq_getElem (by rw [hylen r (List.mem_of_getElem? hr), hysz]; exact hm)⟩
              obtain ⟨u', f1, f2, _, f4⟩ := hnews _ r _ c hr hc
              rw [← hdm] at f1 f4
              rw [hj] at f1; cases f1
              exact ⟨f4, f2⟩
            have hoff : off * q.2.1 + news.length ≤ rw_.elems.length * rw_.sz := by
              rw [hnl, hszr, ← Nat.add_mul]; exact Nat.mul_le_mul_right _ (by omega)
            obtain ⟨cells', hown', hcur, hget⟩ := own_store hown hoff hh
            have hrun := run_copy_one (P := P) w t t' ty q.1 ie g (off * q.2.1) len c1 ad y.2.length cx cur rw_.ty news htu hti hyl hh (by rw [hnl, hts']) (fun j v hj => (hpart j v hj).1) hcur
              (fun v hv => by obtain ⟨j, hj⟩ := List.getElem?_of_mem hv; exact (hpart j v hj).2)
            unfold Oper.wp
            simp only [execOp, resolve, invoke, Sem.run_bind, Sem.run_pure, Result.andThen_ok, builtin, List.map_toArray, List.map_cons, List.map_nil, hxv, hde, hrun]
            generalize hW : w.setRow g (cur.toList.take (off * q.2.1) ++ news ++ cur.toList.drop (off * q.2.1 + news.length)).toArray = W at *
            have hgrow : w.grownBy W (some g) := by
              subst hW; exact ⟨rfl, rfl, rfl, by simp, fun k hk hne => setRow_other w g k _ (fun e => hne (by rw [e]))⟩
            have hbelow : Below w0.heap.size w0 W := h.below.grown hgrow hw0 (fun k e => by cases e; exact hBg)
            have hstab : ∀ q : Addr, S q.block → ∀ x, w.cell? q = some x → W.cell? q = some x := fun q hq x hx => by
              rw [World.cell?_of_block (hgrow.block q.block (h.sw _ hq) (fun e => hnS q.block e.symm hq))]; exact hx
            have hρset : ρ.set r (.slice (some ⟨g, 0, none⟩) n0 c0) = ρ := by
              apply List.ext_getElem?
              intro k
              by_cases hk : k = r
              · subst hk; rw [List.getElem?_set_self (List.getElem?_eq_some_iff.1 hρ).1]; exact hρ.symm
              · rw [List.getElem?_set_ne (fun e => hk e.symm)]
            have hlaid : (laid rw_.elems off y.2).length = rw_.elems.length := by unfold laid; simp; omega
            have hlget : ∀ i, (laid rw_.elems off y.2)[i]? = if off ≤ i ∧ i < off + y.2.length then y.2[i - off]? else rw_.elems[i]? := fun i => by
              unfold laid
              have h1 : (rw_.elems.take off).length = off := by simp; omega
              by_cases hj : i < off
              · rw [if_neg (by omega), List.append_assoc, List.getElem?_append_left (by omega), List.getElem?_take, if_pos hj]
              · by_cases hj2 : i < off + y.2.length
                · rw [if_pos ⟨by omega, hj2⟩, List.append_assoc, List.getElem?_append_right (by omega), h1, List.getElem?_append_left (by omega)]
                · rw [if_neg (by omega), List.getElem?_append_right (by simp; omega), List.getElem?_drop]
                  congr 1
                  simp; omega
            have hheap := h.heap.setRow (w' := W) (rw' := { rw_ with elems := laid rw_.elems off y.2 }) (v' := .slice (some ⟨g, 0, none⟩) n0 c0) hrow hρ h.sw hgrow (.inl rfl) hpos
              (fun x hx => by
                obtain ⟨i, hi⟩ := List.getElem?_of_mem hx
                simp only at hi
                rw [hlget] at hi
                split at hi
                · rw [hylen x (List.mem_of_getElem? hi), hysz, hszr]
                · exact hlenz x (List.mem_of_getElem? hi)) (cells := cells') (by simpa only [hlaid] using hown')
              (fun k x j c hk hj => by
                simp only at hk
                show ∃ u, cells'[k * rw_.sz + j]? = some u ∧ _
                have hkl : k < rw_.elems.length := by have := (List.getElem?_eq_some_iff.1 hk).1; rw [hlaid] at this; exact this
                rw [hlget] at hk
                have hjl : j < rw_.sz := by
                  have h3 := (List.getElem?_eq_some_iff.1 hj).1
                  split at hk
                  · rw [hylen x (List.mem_of_getElem? hk), hysz] at h3; omega
                  · rw [hlenz x (List.mem_of_getElem? hk)] at h3; exact h3
                have hb : k * rw_.sz + j < rw_.elems.length * rw_.sz := by
                  have : (k + 1) * rw_.sz ≤ rw_.elems.length * rw_.sz := Nat.mul_le_mul_right _ hkl
                  rw [Nat.add_mul] at this; omega
                rw [hget _ hb, hnl, ← Nat.add_mul, hszr]
                rw [hszr] at hjl
                split at hk
                · rename_i hin
                  have l1 : off * q.2.1 ≤ k * q.2.1 := Nat.mul_le_mul_right _ hin.1
                  have l2 : (k + 1) * q.2.1 ≤ (off + y.2.length) * q.2.1 := Nat.mul_le_mul_right _ (by omega)
                  rw [Nat.add_mul, Nat.one_mul] at l2
                  rw [if_pos ⟨by omega, by omega⟩]
                  obtain ⟨u, f1, f2, f3, _⟩ := hnews _ x j c hk hj
                  refine ⟨u, ?_, f2, f3⟩
                  rw [show k * q.2.1 + j - off * q.2.1 = (k - off) * q.2.1 + j by rw [Nat.sub_mul]; omega]
                  exact f1
                · rename_i hin
                  rw [if_neg]
                  · have := hcv k x j c hk hj
                    rw [hszr] at this
                    exact this
                  · rintro ⟨l1, l2⟩
                    apply hin
                    constructor
                    · rcases Nat.lt_or_ge k off with hlt | hge
                      · have : (k + 1) * q.2.1 ≤ off * q.2.1 := Nat.mul_le_mul_right _ hlt
                        rw [Nat.add_mul] at this; omega
                      · exact hge
                    · rcases Nat.lt_or_ge k (off + y.2.length) with hlt | hge
                      · exact hlt
                      · have : (off + y.2.length) * q.2.1 ≤ k * q.2.1 := Nat.mul_le_mul_right _ hge
                        omega)
              st.boxes rfl (fun k cs' hk => ⟨cs', hk, rfl, fun j c' c u h1 h2 hv => by rw [h1] at h2; cases h2; rw [hρset]; exact hv⟩)
            rw [hρset] at hheap
            have hlk : ∀ k, KeepL k w S → KeepL k W S := fun _ hk => hk.other (row := some g) (fun r e => by cases e; exact ⟨_, _, _, hh⟩) (fun k hk hne => hgrow.block k hk hne)
            refine hn _ _ _ hK ⟨S, γ, ρ, RelAt.put (st := { st with rows := st.rows.set r (some { rw_ with elems := laid rw_.elems off y.2 }) }) ⟨hbelow, ⟨h.s0.1, hlk _ h.s0.2⟩, fun b hb => Nat.lt_of_lt_of_le (h.sw b hb) hgrow.size, hheap, h.size, h.defs.map hlk, fun s => (h.env s).mono hstab (fun _ h => h) (fun _ _ h => h) (fun _ _ h => h)⟩ (dok_spec hd) .lit⟩
        · cases hp
      · cases hp
      · cases hp
    · cases hp
  · cases hp
def aopsZ (P : Program) (n : Nat) (gs : Nat → Option Nat) : List Oper → List (List Nat) → ASt → (ASt → Prop) → Prop
  | [], _, st, K => K st
  | o :: os, d :: dd, st, K => ∃ st1, (st1 = st ∨ ∃ keep, st1 = st.freeze keep) ∧
      ((aop P n gs o st1 fun st' => aopsZ P n gs os dd (st'.drop d) K) ∨ (aopN P n o st1 fun st' => aopsZ P n gs os dd (st'.drop d) K) ∨ (aopX P n o st1 fun st' => aopsZ P n gs os dd (st'.drop d) K) ∨
        (aopZ P n o st1 fun st' => aopsZ P n gs os dd (st'.drop d) K) ∨ (aopZ0 P n o st1 fun st' => aopsZ P n gs os dd (st'.drop d) K))
  | _ :: _, [], _, _ => False
theorem aopsZ_sound {w0 : World} {S0 : Stab} {all : List Oper} {K : ASt → Prop} {Q : Exit → Act → World → Prop} (hn : ∀ st' a' w', K st' → Rel w0 S0 n st' a' w' → Q .normal a' w') :
    ∀ (l : List Oper) (dd : List (List Nat)) (st : ASt) (a : Act) (w : World), Rel w0 S0 n st a w → aopsZ P n (gslot all) l dd st K → wpList P all.toArray Q l a w
  | [], _, st, a, w, h, hp => by
    unfold wpList
    exact hn _ _ _ hp h
  | _ :: _, [], _, _, _, _, hp => hp.elim
  | o :: os, d :: dd, st, a, w, h, hp => by
    obtain ⟨st1, e, hp⟩ := hp
    have h1 : Rel w0 S0 n st1 a w := by
      rcases e with rfl | ⟨keep, rfl⟩
      · exact h
      · exact h.freeze keep
    rcases hp with hp | hp | hp | hp | hp
    · exact aop_sound h1 hp fun st' a' w' hK hr => aopsZ_sound hn os dd _ a' w' (hr.drop d) hK
    · exact aopN_sound h1 hp fun st' a' w' hK hr => aopsZ_sound hn os dd _ a' w' (hr.drop d) hK
    · exact aopX_sound h1 hp fun st' a' w' hK hr => aopsZ_sound hn os dd _ a' w' (hr.drop d) hK
    · exact aopZ_sound h1 hp fun st' a' w' hK hr => aopsZ_sound hn os dd _ a' w' (hr.drop d) hK
    · exact aopZ0_sound h1 hp fun st' a' w' hK hr => aopsZ_sound hn os dd _ a' w' (hr.drop d) hK
theorem aopsZ_cons {gs : Nat → Option Nat} {d : List Nat} {dd : List (List Nat)} {o : Oper} {os : List Oper} {st : ASt} {K : ASt → Prop} (h : ∀ K' : ASt → Prop, (∀ s, aopsZ P n gs os dd (s.drop d) K → K' s) → aop P n gs o st K') : aopsZ P n gs (o :: os) (d :: dd) st K :=
  ⟨st, .inl rfl, .inl (h _ fun _ h => h)⟩
theorem aopsZ_consZ {gs : Nat → Option Nat} {d : List Nat} {dd : List (List Nat)} {o : Oper} {os : List Oper} {st : ASt} {K : ASt → Prop} (h : ∀ K' : ASt → Prop, (∀ s, aopsZ P n gs os dd (s.drop d) K → K' s) → aopZ P n o st K') : aopsZ P n gs (o :: os) (d :: dd) st K :=
  ⟨st, .inl rfl, .inr (.inr (.inr (.inl (h _ fun _ h => h))))⟩
theorem aopsZ_consZ0 {gs : Nat → Option Nat} {d : List Nat} {dd : List (List Nat)} {o : Oper} {os : List Oper} {st : ASt} {K : ASt → Prop} (h : ∀ K' : ASt → Prop, (∀ s, aopsZ P n gs os dd (s.drop d) K → K' s) → aopZ0 P n o st K') : aopsZ P n gs (o :: os) (d :: dd) st K :=
  ⟨st, .inl rfl, .inr (.inr (.inr (.inr (h _ fun _ h => h))))⟩
theorem aopsZ_nil {gs : Nat → Option Nat} {dd : List (List Nat)} {st : ASt} {K : ASt → Prop} (h : K st) : aopsZ P n gs [] dd st K := h
theorem AWp.regionZ {id : Nat} {l : List Oper} {Q : Exit → ASt → Prop} {st : ASt} (d : List Nat) (dd : List (List Nat)) (h : aopsZ P n (gslot l) l dd (st.drop d) (Q .normal)) : AWp P n (.region id l.toArray false) Q st := fun w0 S0 a w hr =>
  wp_region_lit (aopsZ_sound (fun st' a' w' h1 h2 => ⟨_, h1, h2⟩) l _ _ a w (hr.drop _) h)
theorem AWp.sregZ {id : Nat} {l : List Oper} {y : Code} {Q : Exit → ASt → Prop} {st : ASt} (D : Nat → List (List Nat)) {d : List Nat} {dd : List (List Nat)} (hd : D id = d :: dd)
    (h : ∀ (gs : Nat → Option Nat) (K : ASt → Prop), (∀ j, gs j = gslot l j) → (∀ s, AWp P n y Q s → K s) → aopsZ P n gs l dd (st.drop d) K) :
    AWp P n (.seq (.region id l.toArray false) y) Q st := AWp.seq (AWp.regionZ d dd (h (gslot l) (fun s => AWp P n y Q s) (fun _ => rfl) fun s h => h))
theorem AWp.regZ {id : Nat} {l : List Oper} {Q : Exit → ASt → Prop} {st : ASt} (D : Nat → List (List Nat)) {d : List Nat} {dd : List (List Nat)} (hd : D id = d :: dd)
    (h : ∀ (gs : Nat → Option Nat) (K : ASt → Prop), (∀ j, gs j = gslot l j) → (∀ s, Q .normal s → K s) → aopsZ P n gs l dd (st.drop d) K) :
    AWp P n (.region id l.toArray false) Q st := AWp.regionZ d dd (h (gslot l) (fun s => Q .normal s) (fun _ => rfl) fun s h => h)
end Go.AL
namespace Go.AL
open Go.RowKit
set_option linter.unusedSimpArgs false
set_option linter.unusedVariables false
variable {P : Program} {n : Nat}
/-! ### a drawn region, in each of its orders -/
end Go.AL
open Go Go.AL in
attribute [go_sem] aopZ aopZ0
set_option linter.unusedSimpArgs false
set_option linter.unusedVariables false
set_option linter.constructorNameAsVariable false
namespace Go.AL
open Go.RowKit
set_option linter.unusedSimpArgs false
set_option linter.unusedVariables false
variable {P : Program} {n : Nat}
/-! ### a drawn region: copies and addresses are taken first, the others in each order -/
def isPW : Op → Bool
  | .move _ => true
  | .fieldAddr _ _ _ => true
  | _ => false
inductive Plan
  | stop
  | take (i : Nat) (p : Plan)
  | alt (i : Nat) (p r : Plan)
def Plan.alts : Plan → List Nat
  | .alt i _ r => i :: r.alts
  | _ => []
def takeF (ops : Array Oper) (listed : Array Bool) (i : Nat) : Bool :=
  match ops[i]? with
  | some o => isPW o.op && Region.free .any ops listed i && (Region.ready .any ops listed).contains i
  | none => false
def Plan.chk (ops : Array Oper) : Plan → Nat → Bool → Array Bool → Bool
  | .stop, _, top, listed => !top || (Region.ready .any ops listed).isEmpty
  | .take i p, fuel + 1, top, listed => top && takeF ops listed i && p.chk ops fuel true (listed.setIfInBounds i true)
  | .alt i p r, fuel + 1, top, listed => (!top || (i :: r.alts) == Region.ready .any ops listed) && p.chk ops fuel true (listed.setIfInBounds i true) && r.chk ops (fuel + 1) false listed
  | .take _ _, 0, _, _ => false
  | .alt _ _ _, 0, _, _ => false
def stepA (P : Program) (n : Nat) (gs : Nat → Option Nat) (o : Oper) (st : ASt) (K : ASt → Prop) : Prop := aop P n gs o st K ∨ aopG P n gs o st K
def AP (P : Program) (n : Nat) (gs : Nat → Option Nat) (l : List Oper) (K : ASt → Prop) : Plan → ASt → Prop
  | .stop, st => K st
  | .take i p, st => ∃ o, l[i]? = some o ∧ stepA P n gs o st fun st' => AP P n gs l K p st'
  | .alt i p r, st => (∃ o, l[i]? = some o ∧ stepA P n gs o st fun st' => AP P n gs l K p st') ∧ (r = .stop ∨ AP P n gs l K r st)
theorem astep_pw {st : ASt} {op : Op} {K : AV → ASt → Prop} (hpw : isPW op = true) (h : astep P st op K) : apure P st true op fun v => K v st := by
  cases op <;> simp only [isPW, Bool.false_eq_true] at hpw <;> exact h
theorem pw_run {w0 : World} {S0 : Stab} {st : ASt} {a : Act} {w : World} {S : Nat → Prop} {γ : List Nat} {ρ : List Value} (h : RelAt w0 S0 n st a w S γ ρ) {o : Oper} (hpw : isPW o.op = true) {K : AV → Prop} (hp : apure P st true o.op K) :
    ∃ v u, K v ∧ (∀ w', (execOp a.eval o).run P w' = .ok (.value u) w') ∧ V w S γ ρ false v u := by
  obtain ⟨dst, op, ty, pos, after, guard⟩ := o
  simp only at hpw hp
  cases op <;> simp only [isPW, Bool.false_eq_true] at hpw
  case move x =>
    obtain ⟨hu, _, hK⟩ := hp
    refine ⟨_, a.eval x, hK, fun w' => by simp [execOp], ?_⟩
    exact (h.ev x).un rfl (uoks_mem hu x (by simp [Op.operands]))
  case fieldAddr s x f =>
    obtain ⟨hu, hr, hK⟩ := hp
    have hr := hr rfl
    have hv := (h.ev x).un rfl (uoks_mem hu x (by simp [Op.operands]))
    have lift : ∀ (w' : World) (s : Sem Value) (u : Value), s.run P w' = .ok u w' → (do pure (.value (← s)) : Sem Next).run P w' = .ok (.value u) w' := by
      intro w' s u hs; simp [hs]
    have key : ∃ u, (∀ w' : World, (Instr.fieldAt s (a.eval x) f).run P w' = .ok u w') ∧ V w S γ ρ false (rFA (fldO P s f) (un (evA st.env x))).1 u := by
      simp only [ares] at hr
      generalize un (evA st.env x) = y at *
      generalize a.eval x = ux at *
      cases ho : fldO P s f with
      | none => rw [ho] at hr; cases y <;> simp [rFA] at hr
      | some off =>
        rw [ho] at hr
        cases y <;> try (simp [rFA] at hr; done)
        case rop cs =>
          cases hv with
          | rop U hS hc hv => exact ⟨_, fun w' => run_fieldAt ho _, by simp only [rFA]; exact V.rop_add (.rop U hS hc hv)⟩
        case rp r sz i g =>
          cases hv with
          | rp hρ => exact ⟨_, fun w' => run_fieldAt ho _, by simp only [rFA]; rw [addr_add, Nat.add_assoc]; exact .rp hρ⟩
        case bp b off =>
          cases hv with
          | bp hγ => exact ⟨_, fun w' => run_fieldAt ho _, by simp only [rFA]; rw [addr_add]; exact .bp hγ⟩
    obtain ⟨u, h1, h2⟩ := key
    exact ⟨_, u, hK, fun w' => by simp only [execOp]; exact lift w' _ _ (h1 w'), h2⟩
theorem stepA_yields {w0 : World} {S0 : Stab} {all : List Oper} {o : Oper} {st : ASt} {a : Act} {w : World} {K : ASt → Prop} (h : Rel w0 S0 n st a w) (hpw : isPW o.op = true) (hp : stepA P n (gslot all) o st K) :
    ∃ v st', K st' ∧ YieldsIf P all.toArray (fun _ => True) o v a ∧ Rel w0 S0 n st' (a.put o.dst v) w := by
  obtain ⟨S, γ, ρ, h⟩ := h
  rcases hp with ⟨hd, hp⟩ | ⟨hd, hp⟩
  · have hd := dok_spec hd
    cases hg : o.guard with
    | none =>
      rw [hg] at hp
      obtain ⟨v, u, hK, hr, hv⟩ := pw_run h hpw (astep_pw hpw hp)
      have hw : Region.wanted o (yielded all.toArray a.tmps) = true := by simp [Region.wanted, hg]
      exact ⟨u, _, hK, .inl ⟨hw, fun w' _ => hr w'⟩, S, γ, ρ, h.put hd hv⟩
    | some jw =>
      obtain ⟨j, want⟩ := jw
      rw [hg] at hp
      simp only at hp
      cases hs : gslot all j with
      | none => rw [hs] at hp; exact hp.elim
      | some g =>
        rw [hs] at hp
        simp only at hp
        cases hc : gcond want (eget st.env g) with
        | none => rw [hc] at hp; exact hp.elim
        | some c =>
          rw [hc] at hp
          simp only at hp
          have hw := wanted_iff hg hs hc (h.env g)
          cases c
          · have : ∃ v, K (st.put o.dst (.opt false v)) := by
              unfold apure apureE at hp
              split at hp
              · split at hp
                · exact ⟨_, hp.2.2.2.2.2⟩
                · cases hp
              · split at hp
                · obtain ⟨_, _, r, _, _, hK⟩ := hp; exact ⟨r, hK⟩
                · cases hp
              · exact ⟨_, hp.2.2⟩
            obtain ⟨v, hK⟩ := this
            exact ⟨undef, _, hK, .inr ⟨hw, rfl⟩, S, γ, ρ, h.put hd (.opt (fun h => by cases h) (fun _ => rfl))⟩
          · obtain ⟨v, u, hK, hr, hv⟩ := pw_run h hpw hp
            exact ⟨u, _, hK, .inl ⟨hw, fun w' _ => hr w'⟩, S, γ, ρ, h.put hd (.opt (fun _ => hv) (fun h => by cases h))⟩
  · have hd := dok_spec hd
    cases hg : o.guard with
    | none => rw [hg] at hp; exact hp.elim
    | some jw =>
      obtain ⟨j, want⟩ := jw
      rw [hg] at hp
      simp only at hp
      cases hs : gslot all j with
      | none => rw [hs] at hp; exact hp.elim
      | some g =>
        rw [hs] at hp
        simp only at hp
        rcases hp with ⟨hc, hK⟩ | ⟨hc, hp⟩
        · have hw := wanted_iff hg hs hc (h.env g)
          exact ⟨undef, _, hK, .inr ⟨hw, rfl⟩, S, γ, ρ, h.put hd (.opt (fun h => by cases h) (fun _ => rfl))⟩
        · have hw := wanted_iff hg hs hc (h.env g)
          obtain ⟨v, u, hK, hr, hv⟩ := pw_run h hpw (astep_pw hpw hp)
          exact ⟨u, _, hK, .inl ⟨hw, fun w' _ => hr w'⟩, S, γ, ρ, h.put hd (.opt (fun _ => hv) (fun h => by cases h))⟩
theorem stepA_wpOp {w0 : World} {S0 : Stab} {all : List Oper} {i : Nat} {o : Oper} {st : ASt} {a : Act} {w : World} {K : ASt → Prop} {Q : Exit → Act → World → Prop} {next : Act → World → Prop} (hi : all[i]? = some o) (h : Rel w0 S0 n st a w)
    (hp : stepA P n (gslot all) o st K) (hn : ∀ st' a' w', K st' → Rel w0 S0 n st' a' w' → next a' w') : wpOp P all.toArray Q i next a w := by
  have key : wpList P all.toArray (fun e => match e with | .normal => next | e => Q e) [o] a w := by
    rcases hp with hp | hp
    · exact aop_sound h hp fun st' a' w' hK hr => by unfold wpList; exact hn st' a' w' hK hr
    · exact aopG_sound h hp fun st' a' w' hK hr => by unfold wpList; exact hn st' a' w' hK hr
  unfold wpOp
  simp only [List.getElem?_toArray, hi]
  unfold wpList at key
  split at key
  · rename_i hw
    rw [if_pos hw]
    rcases key with key | ⟨k1, k2⟩
    · left
      unfold Oper.wp at *
      generalize (execOp a.eval o).run P w = r at *
      cases r with
      | ok x w' =>
        cases x <;> simp only [Oper.upon] at key ⊢ <;> first
          | (unfold wpList at key; exact key)
          | exact Calls.mono key (fun e w'' he => by cases e <;> first | (unfold wpList at he; exact he) | exact he)
          | exact Rows.mono key (fun _ _ he => by unfold wpList at he; exact he)
      | halt x w' => cases x <;> simp only [Oper.upon] at key ⊢ <;> exact key
    · right
      exact ⟨k1, by unfold LetsOut at *; exact k2⟩
  · rename_i hw
    rw [if_neg hw]
    unfold wpList at key
    exact key
theorem plan_sound {w0 : World} {S0 : Stab} {all : List Oper} {K : ASt → Prop} {Q : Exit → Act → World → Prop} (hs : Region.noSelect all.toArray = true) (hQ : ∀ c a w, ¬ Q (.panic c) a w)
    (hn : ∀ st' a' w', K st' → Rel w0 S0 n st' a' w' → Q .normal a' w') : ∀ (p : Plan),
    (∀ (fuel : Nat) (listed : Array Bool) (st : ASt) (a : Act) (w : World), p.chk all.toArray fuel true listed = true → AP P n (gslot all) all K p st → Rel w0 S0 n st a w → wpAnyH P .any all.toArray Q (fun _ => True) fuel listed a w) ∧
    (∀ (fuel : Nat) (listed : Array Bool) (st : ASt) (a : Act) (w : World) (top : Bool), p.chk all.toArray (fuel + 1) top listed = true → AP P n (gslot all) all K p st → Rel w0 S0 n st a w →
      ∀ i ∈ p.alts, wpOp P all.toArray Q i (fun a' w' => True ∧ wpAnyH P .any all.toArray Q (fun _ => True) fuel (listed.setIfInBounds i true) a' w') a w)
  | .stop => ⟨fun fuel listed st a w hc hp hr => by
      simp only [Plan.chk, Bool.not_true, Bool.false_or, List.isEmpty_iff] at hc
      exact wpAnyH_done hc (hn _ _ _ hp hr) fuel, fun fuel listed st a w top hc hp hr i hi => by cases hi⟩
  | .take i p => ⟨fun fuel listed st a w hc hp hr => by
      cases fuel with
      | zero => simp [Plan.chk] at hc
      | succ fuel =>
        simp only [Plan.chk, Bool.true_and, Bool.and_eq_true] at hc
        obtain ⟨h1, h2⟩ := hc
        obtain ⟨o, ho, hst⟩ := hp
        unfold takeF at h1
        simp only [List.getElem?_toArray, ho, Bool.and_eq_true] at h1
        obtain ⟨v, st', hK, hy, hr'⟩ := stepA_yields hr h1.1.1 hst
        exact wpAnyH_take (oi := o) (by simpa using ho) hs h1.1.2 h1.2 (fun c a w h => absurd h (hQ c _ _)) hy trivial ((plan_sound hs hQ hn p).1 fuel _ st' _ w h2 hK hr'), fun fuel listed st a w top hc hp hr i hi => by cases hi⟩
  | .alt i p r => by
    have second : ∀ (fuel : Nat) (listed : Array Bool) (st : ASt) (a : Act) (w : World) (top : Bool), (Plan.alt i p r).chk all.toArray (fuel + 1) top listed = true → AP P n (gslot all) all K (.alt i p r) st → Rel w0 S0 n st a w →
        ∀ j ∈ (Plan.alt i p r).alts, wpOp P all.toArray Q j (fun a' w' => True ∧ wpAnyH P .any all.toArray Q (fun _ => True) fuel (listed.setIfInBounds j true) a' w') a w := by
      intro fuel listed st a w top hc hp hr j hj
      simp only [Plan.chk, Bool.and_eq_true] at hc
      obtain ⟨⟨_, h2⟩, h3⟩ := hc
      obtain ⟨⟨o, ho, hst⟩, hrest⟩ := hp
      rcases List.mem_cons.1 hj with rfl | hj
      · exact stepA_wpOp ho hr hst fun st' a' w' hK hr' => ⟨trivial, (plan_sound hs hQ hn p).1 fuel _ st' a' w' h2 hK hr'⟩
      · rcases hrest with rfl | hrest
        · cases hj
        · exact (plan_sound hs hQ hn r).2 fuel listed st a w false h3 hrest hr j hj
    refine ⟨fun fuel listed st a w hc hp hr => ?_, second⟩
    cases fuel with
    | zero => simp [Plan.chk] at hc
    | succ fuel =>
      have hc' := hc
      simp only [Plan.chk, Bool.not_true, Bool.false_or, Bool.and_eq_true, beq_iff_eq] at hc
      exact wpAnyH_all (rs := i :: r.alts) hc.1.1.symm (by simp) (second fuel listed st a w true hc' hp hr)
theorem AWp.regionQ {id : Nat} {l : List Oper} {Q : Exit → ASt → Prop} {st : ASt} (F : List Nat) (p : Plan) (hm : P.follows .mixedOrders = true) (hs : Region.noSelect l.toArray = true) (hc : p.chk l.toArray l.length true (Array.replicate l.length false) = true)
    (h : AP P n (gslot l) l (fun s => Q .normal (s.prune F)) p st) : AWp P n (.region id l.toArray true) Q st := by
  refine AWp.mono (Q := fun e s => e = .normal ∧ Q .normal s) (fun w0 S0 a w ⟨S, γ, ρ, hr⟩ => ?_) (fun e s h => by obtain ⟨rfl, h⟩ := h; exact h)
  refine wp_region_held (S := fun _ => True) hm ?_
  have hb : Below w.heap.size w { w with drawn := w.drawn + 1 } := ⟨rfl, rfl, rfl, Nat.le_refl _, fun _ _ => rfl⟩
  have hr2 : Rel w0 S0 n st a { w with drawn := w.drawn + 1 } := ⟨S, γ, ρ, hr.later hb (fun _ h => h) (fun _ h => .inl h)⟩
  have hsz : l.toArray.size = l.length := by simp
  rw [hsz]
  exact (plan_sound (Q := fun e a' w' => ∃ st', (e = .normal ∧ Q .normal st') ∧ Rel w0 S0 n st' a' w') hs (fun c a w ⟨_, ⟨h, _⟩, _⟩ => by cases h) (fun st' a' w' hK hr' => ⟨_, ⟨rfl, hK⟩, hr'.prune F⟩) p).1 _ _ st a _ hc h hr2
theorem AWp.regQ {id : Nat} {l : List Oper} {Q : Exit → ASt → Prop} {st : ASt} (F : Nat → List Nat) (p : Plan) (hm : P.follows .mixedOrders = true) (hs : Region.noSelect l.toArray = true) (hc : p.chk l.toArray l.length true (Array.replicate l.length false) = true)
    (h : ∀ (gs : Nat → Option Nat) (K : ASt → Prop), (∀ j, gs j = gslot l j) → (∀ s, Q .normal (s.prune (F id)) → K s) → AP P n gs l K p st) : AWp P n (.region id l.toArray true) Q st :=
  AWp.regionQ (F id) p hm hs hc (h (gslot l) (fun s => Q .normal (s.prune (F id))) (fun _ => rfl) fun s h => h)
theorem AWp.sregQ {id : Nat} {l : List Oper} {y : Code} {Q : Exit → ASt → Prop} {st : ASt} (F : Nat → List Nat) (p : Plan) (hm : P.follows .mixedOrders = true) (hs : Region.noSelect l.toArray = true) (hc : p.chk l.toArray l.length true (Array.replicate l.length false) = true)
    (h : ∀ (gs : Nat → Option Nat) (K : ASt → Prop), (∀ j, gs j = gslot l j) → (∀ s, AWp P n y Q (s.prune (F id)) → K s) → AP P n gs l K p st) : AWp P n (.seq (.region id l.toArray true) y) Q st :=
  AWp.seq (AWp.regionQ (F id) p hm hs hc (h (gslot l) (fun s => AWp P n y Q (s.prune (F id))) (fun _ => rfl) fun s h => h))
theorem AP_take {gs : Nat → Option Nat} {l : List Oper} {K : ASt → Prop} {i : Nat} {p : Plan} {st : ASt} {o : Oper} (ho : l[i]? = some o) (h : ∀ K' : ASt → Prop, (∀ s, AP P n gs l K p s → K' s) → aop P n gs o st K') : AP P n gs l K (.take i p) st := ⟨o, ho, .inl (h _ fun _ h => h)⟩
theorem AP_last {gs : Nat → Option Nat} {l : List Oper} {K : ASt → Prop} {i : Nat} {p : Plan} {st : ASt} {o : Oper} (ho : l[i]? = some o) (h : ∀ K' : ASt → Prop, (∀ s, AP P n gs l K p s → K' s) → aop P n gs o st K') : AP P n gs l K (.alt i p .stop) st := ⟨⟨o, ho, .inl (h _ fun _ h => h)⟩, .inl rfl⟩
theorem AP_lastG {gs : Nat → Option Nat} {l : List Oper} {K : ASt → Prop} {i : Nat} {p : Plan} {st : ASt} {o : Oper} (ho : l[i]? = some o) (h : ∀ K' : ASt → Prop, (∀ s, AP P n gs l K p s → K' s) → aopG P n gs o st K') : AP P n gs l K (.alt i p .stop) st := ⟨⟨o, ho, .inr (h _ fun _ h => h)⟩, .inl rfl⟩
theorem AP_lastC {gs : Nat → Option Nat} {l : List Oper} {K : ASt → Prop} {i : Nat} {p : Plan} {st : ASt} {dst : Option Nat} {f : Operand} {args : Array Operand} {ts : Array TypeId} {ty : TypeId} {pos : String} {after : Array Edge} {gd : Option (Nat × Bool)}
    (ho : l[i]? = some ⟨dst, .call ⟨.value f, args, ts⟩, ty, pos, after, gd⟩) (h : ∀ K' : ASt → Prop, (∀ s, AP P n gs l K p s → K' s) → aop P n gs ⟨dst, .call ⟨.value f, args, ts⟩, ty, pos, after, gd⟩ st K') : AP P n gs l K (.alt i p .stop) st := AP_last ho h
theorem AP_alt {gs : Nat → Option Nat} {l : List Oper} {K : ASt → Prop} {i j : Nat} {p q r : Plan} {st : ASt} (h1 : AP P n gs l K (.alt i p .stop) st) (h2 : AP P n gs l K (.alt j q r) st) : AP P n gs l K (.alt i p (.alt j q r)) st := ⟨h1.1, .inr h2⟩
theorem AP_stop {gs : Nat → Option Nat} {l : List Oper} {K : ASt → Prop} {st : ASt} (h : K st) : AP P n gs l K .stop st := h
end Go.AL
