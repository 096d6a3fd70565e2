/-
  The abstract layer, from contracts to statements: calls of laws, arguments of zero. Over whatever program; no condition.
-/
import Derived.Test.YteohklfoggiojaaAbsA
import Derived.Test.YteohklfoggiojaaAbsB
import Derived.Test.YteohklfoggiojaaAbsC
import Derived.Test.YteohklfoggiojaaAbsD
import Derived.Test.YteohklfoggiojaaAbsS
set_option linter.unusedSimpArgs false
set_option linter.unusedVariables false
set_option linter.constructorNameAsVariable false

namespace Go.AL
open Go.RowKit Go.ChangeShapes Go.WideShapes Go.Deep
set_option linter.unusedSimpArgs false
set_option linter.unusedVariables false

noncomputable def simpleFs (P : Program) (g : TypeId → Bool) : List Field → Nat → Nat → Bool
  | [], off, n => Nat.beq off n
  | f :: fs, off, n => g f.type && Nat.beq f.offset off && simpleFs P g fs (off + P.cellsOf f.type) n
noncomputable def simpleT (P : Program) : Nat → TypeId → Bool
  | 0, _ => false
  | d + 1, t => match P.underlying t with
    | some .bool => true
    | some (.int _) => true
    | some .string => true
    | some (.slice e) => simpleT P d e && Nat.ble 1 (P.cellsOf e)
    | some (.struct fs) => simpleFs P (simpleT P d) fs.toList 0 (P.cellsOf t)
    | some (.array n e) => simpleT P d e && Nat.beq (P.cellsOf t) (n * P.cellsOf e)
    | _ => false
noncomputable def topT (P : Program) (t : TypeId) : Bool := match P.underlying t with
  | some (.array _ _) => false
  | _ => true
section
variable {H : Type} {enc : TypeId × Value → H} {P : Program} {w w' : World}

theorem mapM_mk {α β : Type} {f : α → Option β} : ∀ (is : List α) (l : List β), is.length = l.length → (∀ (k : Nat) (i : α), is[k]? = some i → f i = l[k]?) → is.mapM f = some l
  | [], [], _, _ => rfl
  | [], _ :: _, h, _ => by simp at h
  | _ :: _, [], h, _ => by simp at h
  | i :: is, y :: l, h, hf => by
    have h1 := hf 0 i rfl
    have h2 := mapM_mk is l (by simpa using h) (fun k j hk => by simpa using hf (k + 1) j (by simpa using hk))
    rw [List.mapM_cons, h1, h2]; rfl
theorem cell_block {a : Addr} {v : Value} (h : w.cell? a = some v) : a.block < w.heap.size := by
  unfold World.cell? at h
  split at h
  · rename_i e; exact (Array.getElem?_eq_some_iff.1 e).1
  · cases h
theorem cells_keep (hb : Below w.heap.size w w') {a : Addr} {n : Nat} {cs : List Value} (h : w.cells? 0 a n = some cs) : w'.cells? 0 a n = some cs := by
  obtain ⟨h1, h2, h3⟩ := World.cells?_some h
  unfold World.cells?
  rw [if_pos h1]
  refine mapM_mk _ _ (by simp [h2]) fun k i hk => ?_
  have hki : k = i ∧ k < n := by
    have := List.getElem?_eq_some_iff.1 hk
    obtain ⟨e1, e2⟩ := this
    simp at e1 e2
    exact ⟨e2, e1⟩
  obtain ⟨rfl, hkn⟩ := hki
  have h4 := h3 k hkn
  rw [← h4]
  have : (a.add k).block < w.heap.size := cell_block (v := cs[k]'(by omega)) (by rw [h4]; exact List.getElem?_eq_getElem _)
  exact hb.cell this
theorem range_get {n k i : Nat} (h : (List.range n)[k]? = some i) : k = i ∧ k < n := by
  obtain ⟨e1, e2⟩ := List.getElem?_eq_some_iff.1 h
  simp at e1 e2
  exact ⟨e2, e1⟩

theorem simpleFs_mem {g : TypeId → Bool} : ∀ {fs : List Field} {off n : Nat}, simpleFs P g fs off n = true → ∀ f ∈ fs, g f.type = true
  | [], off, n, h, f, hf => by cases hf
  | f :: fs, off, n, h, f', hf => by
    simp only [simpleFs, Bool.and_eq_true] at h
    rcases List.mem_cons.1 hf with rfl | hf
    · exact h.1.1
    · exact simpleFs_mem h.2 f' hf

theorem trod_keep (hb : Below w.heap.size w w') {sp : Nat → Bool} : ∀ (d : Nat) (t : TypeId) (fuel : Nat) (cs : List Value) (x : DataW H × List MemPlace), simpleT P d t = true →
    DataW.trod enc P w 0 (fun _ => true) true fuel t cs = some x → (∀ p ∈ x.2, sp p.block = true) → DataW.trod enc P w' 0 sp true fuel t cs = some x
  | 0, t, fuel, cs, x, hs, _, _ => by simp [simpleT] at hs
  | d + 1, t, fuel, cs, x, hs, h, hp => by
    simp only [simpleT] at hs
    cases hu : P.underlying t with
    | none => simp [hu] at hs
    | some td =>
      simp only [hu] at hs
      cases td <;> simp only [reduceCtorEq, Bool.false_eq_true] at hs
      case bool =>
        obtain ⟨b, rfl, rfl⟩ := DataW.trod_bool hu h
        cases fuel with
        | zero => simp [DataW.trod] at h
        | succ n => unfold DataW.trod; rw [hu]
      case int k =>
        obtain ⟨n, rfl, rfl, hwf⟩ := DataW.trod_int hu h
        cases fuel with
        | zero => simp [DataW.trod] at h
        | succ m => unfold DataW.trod; rw [hu]; simp [hwf]
      case string =>
        obtain ⟨s, rfl, rfl, hsz⟩ := DataW.trod_string hu h
        cases fuel with
        | zero => simp [DataW.trod] at h
        | succ m => unfold DataW.trod; rw [hu]; simp [hsz]
      case slice e =>
        simp only [Bool.and_eq_true] at hs
        rcases DataW.trod_slice hu h with ⟨rfl, rfl⟩ | ⟨a, len, cap, elems, rest, n, rfl, rfl, rfl, hbk, hl, hm, hlen, hel, hsp, _⟩
        · cases fuel with
          | zero => simp [DataW.trod] at h
          | succ m => unfold DataW.trod; rw [hu]; rfl
        · obtain ⟨hrl, hre⟩ := hsp rfl
          have hc1 := Nat.le_of_ble_eq_true hs.2
          have each : ∀ (i : Nat) (y : DataW H × List MemPlace), y ∈ elems ++ rest → (w.cells? 0 (a.add (i * P.cellsOf e)) (P.cellsOf e)).bind (DataW.trod enc P w 0 (fun _ => true) true n e) = some y →
              (w'.cells? 0 (a.add (i * P.cellsOf e)) (P.cellsOf e)).bind (DataW.trod enc P w' 0 sp true n e) = some y := by
            intro i y hy h1
            obtain ⟨cs', h2, h3⟩ := Option.bind_eq_some_iff.1 h1
            rw [cells_keep hb h2]
            refine trod_keep hb d e n cs' y hs.1 h3 fun p hpy => hp p ?_
            exact List.mem_append_right _ (List.mem_flatMap.2 ⟨y, hy, hpy⟩)
          unfold DataW.trod
          rw [hu]
          simp only
          rw [if_pos ⟨hbk, hl, hm⟩]
          have e1 : ((List.range len).mapM fun i => (w'.cells? 0 (a.add (i * P.cellsOf e)) (P.cellsOf e)).bind (DataW.trod enc P w' 0 sp true n e)) = some elems := by
            refine mapM_mk _ _ (by simp [hlen]) fun k i hk => ?_
            obtain ⟨rfl, hkl⟩ := range_get hk
            have h1 := hel k hkl
            have h2 : elems[k]? = some (elems[k]'(by omega)) := List.getElem?_eq_getElem _
            rw [h2] at h1 ⊢
            exact each k _ (List.mem_append_left _ (List.getElem_mem _)) h1
          rw [e1]
          have e2 : (if sp a.block = true then (List.range (cap - len)).mapM fun j => (w'.cells? 0 (a.add ((len + j) * P.cellsOf e)) (P.cellsOf e)).bind (DataW.trod enc P w' 0 sp true n e) else some []) = some rest := by
            by_cases hz : cap = 0
            · have hr0 : rest = [] := by apply List.eq_nil_of_length_eq_zero; omega
              subst hz
              simp [hr0]
            · have hspa : sp a.block = true := by
                refine hp (.cell a.block (a.off + 0)) (List.mem_append_left _ ?_)
                refine List.mem_map.2 ⟨0, List.mem_range.2 ?_, rfl⟩
                have : 0 < elems.length + rest.length := by omega
                exact Nat.mul_pos this hc1
              rw [if_pos hspa]
              refine mapM_mk _ _ (by simp [hrl]) fun k i hk => ?_
              obtain ⟨rfl, hkl⟩ := range_get hk
              have h1 := hre k hkl
              have h2 : rest[k]? = some (rest[k]'(by omega)) := List.getElem?_eq_getElem _
              rw [h2] at h1 ⊢
              exact each _ _ (List.mem_append_right _ (List.getElem_mem _)) h1
          simp only [Option.bind_some]
          rw [e2]
          rfl
      case struct fs =>
        obtain ⟨xs, n, rfl, rfl, hcl, hxl, hf⟩ := DataW.trod_struct hu h
        unfold DataW.trod
        rw [hu]
        simp only
        rw [if_pos hcl]
        have e1 : (fs.toList.mapM fun f => DataW.trod enc P w' 0 sp true n f.type ((cs.drop f.offset).take (P.cellsOf f.type))) = some xs := by
          refine mapM_mk _ _ (by simp [hxl]) fun k f hk => ?_
          have h1 := hf k f (by simpa using hk)
          have hkl : k < xs.length := by
            have := (List.getElem?_eq_some_iff.1 hk).1
            simp at this; omega
          have h2 : xs[k]? = some xs[k] := List.getElem?_eq_getElem _
          rw [h2] at h1 ⊢
          refine trod_keep hb d f.type n _ _ (simpleFs_mem hs f (List.mem_of_getElem? hk)) h1 fun p hpy => hp p ?_
          exact List.mem_flatMap.2 ⟨_, List.getElem_mem _, hpy⟩
        rw [e1]
        rfl
      case array k e =>
        simp only [Bool.and_eq_true] at hs
        obtain ⟨xs, n, rfl, rfl, hcl, hxl, hf⟩ := DataW.trod_array hu h
        unfold DataW.trod
        rw [hu]
        simp only
        rw [if_pos hcl]
        have e1 : ((List.range k).mapM fun i => DataW.trod enc P w' 0 sp true n e ((cs.drop (i * P.cellsOf e)).take (P.cellsOf e))) = some xs := by
          refine mapM_mk _ _ (by simp [hxl]) fun j i hk => ?_
          obtain ⟨rfl, hkl⟩ := range_get hk
          have h1 := hf j hkl
          have h2 : xs[j]? = some (xs[j]'(by omega)) := List.getElem?_eq_getElem _
          rw [h2] at h1 ⊢
          refine trod_keep hb d e n _ _ hs.1 h1 fun p hpy => hp p ?_
          exact List.mem_flatMap.2 ⟨_, List.getElem_mem _, hpy⟩
        rw [e1]
        rfl
theorem trodAll_keep (hb : Below w.heap.size w w') {sp : Nat → Bool} {d : Nat} : ∀ (ts : List TypeId) (vs : List Value) (ds : List (DataW H)) (ps : List MemPlace), ts.all (simpleT P d) = true →
    DataW.TrodAll enc P w 0 (fun _ => true) true ts vs ds ps → (∀ p ∈ ps, sp p.block = true) → DataW.TrodAll enc P w' 0 sp true ts vs ds ps
  | [], vs, ds, ps, hs, h, hp => by
    obtain ⟨rfl, rfl, rfl⟩ := trodAll_nil h
    exact trodAll_mk0
  | t :: ts, vs, ds, ps, hs, h, hp => by
    obtain ⟨v, vs', d', ds', p, q, rfl, rfl, rfl, ⟨fuel, h1⟩, h2⟩ := trodAll_cons h
    simp only [List.all_cons, Bool.and_eq_true] at hs
    exact trodAll_cons_mk ⟨fuel, trod_keep hb d t fuel _ _ hs.1 h1 fun p hp' => hp p (List.mem_append_left _ hp')⟩
      (trodAll_keep hb ts vs' ds' q hs.2 h2 fun p hp' => hp p (List.mem_append_right _ hp'))

theorem fields_told {g : TypeId → Bool} {G : TypeId → List AV → Prop} {cs : List Value} {T : TypeId → List Value → Prop} (hg : ∀ t l, g t = true → T t l → ∃ avs, Told w avs l ∧ G t avs) :
    ∀ (fs : List Field) (off : Nat), simpleFs P g fs off cs.length = true → (∀ f ∈ fs, T f.type ((cs.drop f.offset).take (P.cellsOf f.type))) → ∃ avs, Told w avs (cs.drop off) ∧ ShpF P G fs avs
  | [], off, hs, _ => by
    have := Nat.eq_of_beq_eq_true hs
    subst this
    exact ⟨[], ⟨by simp, fun j c u h => by simp at h⟩, rfl⟩
  | f :: fs, off, hs, hf => by
    simp only [simpleFs, Bool.and_eq_true] at hs
    obtain ⟨⟨h1, h2⟩, h3⟩ := hs
    have h2 := Nat.eq_of_beq_eq_true h2
    obtain ⟨a, ha1, ha2⟩ := hg _ _ h1 (hf f (by simp))
    obtain ⟨b, hb1, hb2⟩ := fields_told hg fs _ h3 (fun f' hf' => hf f' (by simp [hf']))
    refine ⟨a ++ b, ?_, a, b, rfl, ha2, hb2⟩
    have := ha1.append hb1
    rw [h2] at this
    rw [← List.drop_drop, List.take_append_drop] at this
    exact this

theorem array_told {G : List AV → Prop} (c : Nat) : ∀ (n : Nat) (cs : List Value), cs.length = n * c → (∀ i, i < n → ∃ avs, Told w avs ((cs.drop (i * c)).take c) ∧ G avs) →
    ∃ xs : List (List AV), Told w xs.flatten cs ∧ xs.length = n ∧ ∀ x ∈ xs, G x
  | 0, cs, hl, _ => by
    have : cs = [] := List.eq_nil_of_length_eq_zero (by simpa using hl)
    subst this
    exact ⟨[], ⟨rfl, fun j c u h => by simp at h⟩, rfl, by simp⟩
  | n + 1, cs, hl, h => by
    obtain ⟨a, ha1, ha2⟩ := h 0 (by omega)
    obtain ⟨xs, hx1, hx2, hx3⟩ := array_told c n (cs.drop c) (by simp [hl, Nat.add_mul]) fun i hi => by
      have := h (i + 1) (by omega)
      rw [List.drop_drop, show c + i * c = (i + 1) * c by rw [Nat.add_mul]; omega]
      exact this
    refine ⟨a :: xs, ?_, by simp [hx2], fun x hx => ?_⟩
    · rw [List.flatten_cons]
      have := ha1.append hx1
      simp only [Nat.zero_mul, List.drop_zero, List.take_append_drop] at this
      exact this
    · rcases List.mem_cons.1 hx with rfl | hx
      · exact ha2
      · exact hx3 x hx

theorem trod_told {sp : Nat → Bool} {held : Bool} : ∀ (d : Nat) (t : TypeId) (fuel : Nat) (cs : List Value) (x : DataW H × List MemPlace), simpleT P d t = true →
    DataW.trod enc P w 0 sp held fuel t cs = some x → ∃ avs, Told w avs cs ∧ Shp P d t avs
  | 0, t, fuel, cs, x, hs, _ => by simp [simpleT] at hs
  | d + 1, t, fuel, cs, x, hs, h => by
    simp only [simpleT] at hs
    cases hu : P.underlying t with
    | none => simp [hu] at hs
    | some td =>
      simp only [hu] at hs
      cases td <;> simp only [reduceCtorEq, Bool.false_eq_true] at hs
      case bool =>
        obtain ⟨b, rfl, rfl⟩ := DataW.trod_bool hu h
        exact ⟨_, Told.one rfl .lit, by simp only [Shp, hu]; exact ⟨b, rfl⟩⟩
      case int k =>
        obtain ⟨n, rfl, rfl, hwf⟩ := DataW.trod_int hu h
        exact ⟨_, Told.one rfl .lit, by simp only [Shp, hu]; exact ⟨n, rfl, hwf⟩⟩
      case string =>
        obtain ⟨s, rfl, rfl, hsz⟩ := DataW.trod_string hu h
        exact ⟨_, Told.one rfl .lit, by simp only [Shp, hu]; exact ⟨s, rfl, hsz⟩⟩
      case slice e =>
        simp only [Bool.and_eq_true] at hs
        rcases DataW.trod_slice hu h with ⟨rfl, rfl⟩ | ⟨a, len, cap, elems, rest, n, rfl, rfl, rfl, hbk, hl, hm, hlen, hel, hsp, _⟩
        · refine ⟨[.ro (P.cellsOf e) []], Told.one rfl ?_, by simp only [Shp, hu]; exact ⟨[], rfl, by simp, by simp⟩⟩
          exact .ro (fun _ _ => undef) rfl (Nat.le_refl _) (by unfold maxLen; omega) (by simp) (fun h => absurd rfl h) (fun i r j x h => by simp at h)
        · have hc1 := Nat.le_of_ble_eq_true hs.2
          have hex : ∀ i : Nat, ∃ p : List AV × List Value, i < len → w.cells? 0 (a.add (i * P.cellsOf e)) (P.cellsOf e) = some p.2 ∧ Told w p.1 p.2 ∧ Shp P d e p.1 := by
            intro i
            by_cases hi : i < len
            · have h1 := hel i hi
              rw [List.getElem?_eq_getElem (by omega)] at h1
              obtain ⟨cs', h2, h3⟩ := Option.bind_eq_some_iff.1 h1
              obtain ⟨avs, h4, h5⟩ := trod_told d e n cs' _ hs.1 h3
              exact ⟨(avs, cs'), fun _ => ⟨h2, h4, h5⟩⟩
            · exact ⟨([], []), fun h => absurd h hi⟩
          obtain ⟨F, hF⟩ := Classical.axiomOfChoice hex
          have hget : ∀ (i : Nat) (r : List AV), ((List.range len).map fun i => (F i).1)[i]? = some r → i < len ∧ r = (F i).1 := by
            intro i r hr
            rw [List.getElem?_map] at hr
            obtain ⟨j, hj, rfl⟩ := Option.map_eq_some_iff.1 hr
            obtain ⟨rfl, hl⟩ := range_get hj
            exact ⟨hl, rfl⟩
          have hcell : ∀ (i j : Nat) (x : AV), i < len → (F i).1[j]? = some x → ∃ u, (F i).2[j]? = some u ∧ w.cell? (a.add (i * P.cellsOf e + j)) = some u ∧ u.oneCell' = true ∧ V w (fun b => b < w.heap.size) [] [] true x u := by
            intro i j x hi hx
            obtain ⟨h1, h2, _⟩ := hF i hi
            obtain ⟨_, h4, h5⟩ := World.cells?_some h1
            have hj : j < (F i).1.length := (List.getElem?_eq_some_iff.1 hx).1
            have hj2 : j < (F i).2.length := by rw [← h2.1]; exact hj
            have hu2 : (F i).2[j]? = some (F i).2[j] := List.getElem?_eq_getElem _
            obtain ⟨e1, e2⟩ := h2.2 j x _ hx hu2
            have h6 := h5 j (by omega)
            rw [hu2] at h6
            rw [Deep.add_add] at h6
            exact ⟨_, hu2, h6, e1, e2⟩
          refine ⟨[.ro (P.cellsOf e) ((List.range len).map fun i => (F i).1)], Told.one rfl ?_, ?_⟩
          · refine .ro (fun i j => (F i).2.getD j undef) (by simp) hl hm (fun r hr => ?_) (fun hne => ?_) (fun i r j x h1 h2 => ?_)
            · obtain ⟨i, hi, rfl⟩ := List.mem_map.1 hr
              obtain ⟨h1, h2, _⟩ := hF i (List.mem_range.1 hi)
              rw [h2.1]; exact (World.cells?_some h1).2.1
            · have hl0 : 0 < len := by
                rcases Nat.eq_zero_or_pos len with h | h
                · subst h; simp at hne
                · exact h
              refine ⟨a, rfl, ?_, fun i r j x h1 h2 => ?_⟩
              · obtain ⟨h1, h2, _⟩ := hF 0 hl0
                obtain ⟨_, h4, h5⟩ := World.cells?_some h1
                have h6 := h5 0 hc1
                have := cell_block (w := w) (a := (a.add (0 * P.cellsOf e)).add 0) (v := (F 0).2[0]'(by omega)) (by rw [h6]; exact List.getElem?_eq_getElem _)
                simpa [Addr.add] using this
              · obtain ⟨hi, rfl⟩ := hget i r h1
                obtain ⟨u, e0, e1, e2, _⟩ := hcell i j x hi h2
                have : (F i).2.getD j undef = u := by rw [List.getD_eq_getElem?_getD, e0]; rfl
                rw [this]
                exact ⟨e1, e2⟩
            · obtain ⟨hi, rfl⟩ := hget i r h1
              obtain ⟨u, e0, e1, e2, e3⟩ := hcell i j x hi h2
              have : (F i).2.getD j undef = u := by rw [List.getD_eq_getElem?_getD, e0]; rfl
              rw [this]
              exact e3
          · simp only [Shp, hu]
            refine ⟨_, rfl, by simp; omega, fun x hx => ?_⟩
            obtain ⟨i, hi, rfl⟩ := List.mem_map.1 hx
            exact (hF i (List.mem_range.1 hi)).2.2
      case struct fs =>
        obtain ⟨xs, n, rfl, rfl, hcl, hxl, hf⟩ := DataW.trod_struct hu h
        rw [← hcl] at hs
        have := fields_told (w := w) (g := simpleT P d) (G := Shp P d) (cs := cs) (T := fun t l => ∃ y, DataW.trod enc P w 0 sp held n t l = some y)
          (fun t l hs' ⟨y, hy⟩ => trod_told d t n l y hs' hy) fs.toList 0 hs (fun f hfm => by
            obtain ⟨k, hk, hkf⟩ := List.getElem_of_mem hfm
            have hk2 : k < fs.size := by simpa using hk
            have h1 := hf k f (by rw [Array.getElem?_eq_getElem hk2]; simpa using hkf)
            exact ⟨_, h1.trans (List.getElem?_eq_getElem (by omega))⟩)
        obtain ⟨avs, h1, h2⟩ := this
        exact ⟨avs, by simpa using h1, by simp only [Shp, hu]; exact h2⟩

      case array k e =>
        simp only [Bool.and_eq_true] at hs
        obtain ⟨xs, n, rfl, rfl, hcl, hxl, hf⟩ := DataW.trod_array hu h
        have hcn := Nat.eq_of_beq_eq_true hs.2
        obtain ⟨ys, h1, h2, h3⟩ := array_told (w := w) (G := Shp P d e) (P.cellsOf e) k cs (by omega) fun i hi => by
          have h1 := hf i hi
          exact trod_told d e n _ _ hs.1 (h1.trans (List.getElem?_eq_getElem (by omega)))
        exact ⟨_, h1, by simp only [Shp, hu]; exact ⟨ys, rfl, h2, h3⟩⟩

/-- an argument -/
theorem arg_told {d : Nat} {t : TypeId} {v : Value} {dd : DataW H} {ps : List MemPlace} {sp : Nat → Bool} {held : Bool} {r : Reach} {b0 : Nat} (hs : simpleT P d t = true) (htop : topT P t = true) (hv : Value.okWide P w r b0 t v)
    (h : DataW.Trod enc P w 0 sp held t v dd ps) : ∃ a, ShpA P d t a ∧ V w (fun b => b < w.heap.size) [] [] true a v := by
  obtain ⟨fuel, h⟩ := h
  obtain ⟨avs, h1, h2⟩ := trod_told d t fuel _ _ hs h
  cases d with
  | zero => simp [simpleT] at hs
  | succ d =>
    simp only [simpleT] at hs
    cases hu : P.underlying t with
    | none => simp [hu] at hs
    | some td =>
      simp only [hu] at hs
      by_cases hst : ∃ fs, td = .struct fs
      · obtain ⟨fs, rfl⟩ := hst
        obtain ⟨cs, rfl, _⟩ := okWide_struct hu hv
        refine ⟨.agg avs, by simp only [ShpA, hu]; exact ⟨avs, rfl, h2⟩, ?_⟩
        have hcs : cs = cs.toList.toArray := by simp
        rw [hcs]
        exact .agg h1.1.symm fun i c u e1 e2 => (h1.2 i c u e1 e2).2
      · have harr : ∀ k e, td ≠ .array k e := fun k e he => by
          subst he
          simp [topT, hu] at htop
        have hone : ∃ a, avs = [a] := by
          cases td <;> simp only [reduceCtorEq, Bool.false_eq_true] at hs
          case struct fs => exact absurd ⟨fs, rfl⟩ hst
          case array k e => exact absurd rfl (harr k e)
          all_goals
            simp only [Shp, hu] at h2
            first
              | (obtain ⟨n, e, _⟩ := h2; exact ⟨_, e⟩)
              | (obtain ⟨n, e⟩ := h2; exact ⟨_, e⟩)
        obtain ⟨a, rfl⟩ := hone
        have hl := h1.1
        have hagg : ∀ cs, v ≠ .agg cs := by
          intro cs e
          subst e
          simp only [Value.okWide, hu] at hv
          cases td <;> simp only [reduceCtorEq, Bool.false_eq_true] at hs
          case struct fs => exact absurd ⟨fs, rfl⟩ hst
          case array k e => exact absurd rfl (harr k e)
          all_goals simp [Cell.okWide, Cell.ok, hu] at hv
        have hc : v.cells.toList = [v] := by cases v <;> first | rfl | exact absurd rfl (hagg _)
        rw [hc] at h1
        refine ⟨a, ?_, (h1.2 0 a v rfl rfl).2⟩
        cases td <;> simp only [reduceCtorEq, Bool.false_eq_true] at hs
        case struct fs => exact absurd ⟨fs, rfl⟩ hst
        case array k e => exact absurd rfl (harr k e)
        all_goals (simp only [ShpA, hu]; exact h2)
theorem args_told {d : Nat} {sp : Nat → Bool} {held : Bool} {r : Reach} {b0 : Nat} : ∀ (ts : List TypeId) (vs : List Value) (ds : List (DataW H)) (ps : List MemPlace), ts.all (fun t => simpleT P d t && topT P t) = true →
    (∀ (j : Nat) (t : TypeId) (v : Value), ts[j]? = some t → vs[j]? = some v → Value.okWide P w r b0 t v) → DataW.TrodAll enc P w 0 sp held ts vs ds ps →
    ∃ as, ShpAs P d ts as ∧ as.length = vs.length ∧ vs.length = ds.length ∧ ∀ (i : Nat) (a : AV) (u : Value), as[i]? = some a → vs[i]? = some u → V w (fun b => b < w.heap.size) [] [] true a u
  | [], vs, ds, ps, hs, hv, h => by
    obtain ⟨rfl, rfl, rfl⟩ := trodAll_nil h
    exact ⟨[], rfl, rfl, rfl, fun i a u h => by simp at h⟩
  | t :: ts, vs, ds, ps, hs, hv, h => by
    obtain ⟨v, vs', d', ds', p, q, rfl, rfl, rfl, h1, h2⟩ := trodAll_cons h
    simp only [List.all_cons, Bool.and_eq_true] at hs
    obtain ⟨a, ha1, ha2⟩ := arg_told hs.1.1 hs.1.2 (hv 0 t v rfl rfl) h1
    obtain ⟨as, hb1, hb2, hb4, hb3⟩ := args_told ts vs' ds' q hs.2 (fun j t v e1 e2 => hv (j + 1) t v (by simpa using e1) (by simpa using e2)) h2
    refine ⟨a :: as, ⟨a, as, rfl, ha1, hb1⟩, by simp [hb2], by simp [hb4], fun i b u e1 e2 => ?_⟩
    cases i with
    | zero => simp at e1 e2; subst e1; subst e2; exact ha2
    | succ i => exact hb3 i b u (by simpa using e1) (by simpa using e2)

theorem post_below {f : Func} {s : ChangeSpec} {apart fresh handsOn again : Bool} {W W' : World} {args : Array Value} {v : Value} {ds gs : List (DataW H)} {before pa pv : List MemPlace}
    (hW : DataW.Whole enc P f.params.toList s.vars apart W args.toList ds gs before)
    (hres : ∀ (b : Nat) (sp : Nat → Bool) (hd : Bool), DataW.TrodAll enc P W' b sp hd f.resultTypes.toList (v.resultList f.resultTypes.size) (s.fn H (ds ++ gs)).results [])
    (hargs : ∀ sp : Nat → Bool, (∀ p ∈ before, sp p.block = true) → DataW.TrodAll enc P W' 0 sp true f.params.toList args.toList (s.fn H (ds ++ gs)).args pa)
    (hvars : ∀ sp : Nat → Bool, (∀ p ∈ before, sp p.block = true) → DataW.TrodVars enc P W' sp s.vars (s.fn H (ds ++ gs)).vars pv)
    (hps : before = pa ++ pv) (hb : Below W.heap.size W W')
    (hok : ∀ (j : Nat) (t : TypeId) (r : Value), f.resultTypes[j]? = some t → (v.resultList f.resultTypes.size)[j]? = some r → Value.okWide P W' .any 0 t r) :
    s.post enc P f apart fresh handsOn again W args v W' := by
  have hlt : ∀ p ∈ before, p.block < W.heap.size := fun p hp => hW.lt p hp
  have hold : ∀ p ∈ before, (fun b => decide (b < W.heap.size)) p.block = true := fun p hp => by simpa using hlt p hp
  refine ⟨ds, gs, before, [], pa, pv, hW, hres _ _ _, hargs _ hold, hvars _ hold, World.keptBut_mono (fun p hp => ⟨hp, ?_⟩) (hb.frame (· ∈ before)), fun _ => ?_⟩
  · rw [hps, List.mem_append] at hp
    exact Or.inr hp
  · obtain ⟨_, _, _, _, _, hz, hn⟩ := hW
    refine ⟨hok, _, _, ([] ++ pa) ++ pv, ⟨[] ++ pa, pv, trodAll_append (hargs _ (fun _ _ => rfl)) (hres _ _ _), hvars _ (fun _ _ => rfl), rfl, ?_, ?_⟩, ?_⟩
    · intro b off hp
      have hin : MemPlace.cell b off ∈ before := by rw [hps]; simpa using hp
      rw [hb.frozen (hlt _ hin)]
      exact hz b off hin
    · intro ha
      have := hn ha
      rw [hps] at this
      simpa using this
    · intro p hp _
      rw [hps]
      simpa using hp

/-- the zero of a type, as an argument -/
noncomputable def zeroArg (P : Program) (t : TypeId) : Value := match P.info? t with
  | some i => i.zero.getD undef
  | none => undef
/-- a law: whatever the arguments, it returns true; then what the row asks of a call holds -/
theorem law_calls {f : FuncId} {fn : Func} {s : ChangeSpec} {d : Nat} {tb : TypeId} {apart fresh handsOn again : Bool} (hs : fn.params.toList.all (fun t => simpleT P d t && topT P t) = true) (hvars : s.vars = []) (hrt : fn.resultTypes = #[tb]) (hbt : P.underlying tb = some .bool)
    (hspec : ∀ (ds : List (DataW H)), ds.length = fn.params.size → s.fn H ds = { results := [.lit (.bool true)], args := ds })
    (hlaw : ∀ as, ShpAs P d fn.params.toList as → ACall P f as (.lit (.bool true)))
    {W : World} {args : Array Value} {ds gs : List (DataW H)} {before : List MemPlace} {base : Nat}
    (hval : ∀ (j : Nat) t v, fn.params[j]? = some t → args[j]? = some v → Value.okWide P W .any base t v)
    (hW : DataW.Whole enc P fn.params.toList s.vars apart W args.toList ds gs before) :
    Calls P f args W fun e W' => ∃ v, e = .returned v ∧ s.post enc P fn apart fresh handsOn again W args v W' := by
  have hW' := hW
  have hs1 : fn.params.toList.all (simpleT P d) = true := by
    rw [List.all_eq_true] at hs ⊢
    intro x hx
    have := hs x hx
    simp only [Bool.and_eq_true] at this
    exact this.1
  obtain ⟨p, q, hA, hV, rfl, hfz, hnd⟩ := hW
  rw [hvars] at hV
  obtain ⟨rfl, rfl⟩ := trodVars_none hV
  obtain ⟨as, h1, h2, h4, h3⟩ := args_told fn.params.toList args.toList ds p hs (fun j t v e1 e2 => hval j t v (by simpa using e1) (by simpa using e2)) hA
  obtain ⟨_, hc⟩ := hlaw as h1
  have hcall := hc W (fun b => b < W.heap.size) args.toList (fun _ h => h) h2.symm h3
  have hargs : args.toList.toArray = args := by simp
  rw [hargs] at hcall
  refine hcall.mono fun e W' ⟨u, he, hb, hv⟩ => ?_
  subst he
  have hu := hv.lit_eq
  subst hu
  have hlen : ds.length = fn.params.size := by
    have : ∀ (ts : List TypeId) (vs : List Value) (ds : List (DataW H)) (ps : List MemPlace), DataW.TrodAll enc P W 0 (fun _ => true) true ts vs ds ps → ds.length = ts.length := by
      intro ts
      induction ts with
      | nil => intro vs ds ps h; obtain ⟨_, rfl, _⟩ := trodAll_nil h; rfl
      | cons t ts ih => intro vs ds ps h; obtain ⟨_, _, _, _, _, _, _, rfl, _, _, h2⟩ := trodAll_cons h; simp [ih _ _ _ h2]
    simpa using this _ _ _ _ hA
  have hfn := hspec ds hlen
  refine ⟨_, rfl, post_below (pa := p) (pv := []) hW' (fun b sp hd => ?_) (fun sp hsp => ?_) (fun sp hsp => ?_) rfl hb ?_⟩
  · rw [List.append_nil, hfn, hrt]
    exact trodAll_cons_mk (shut_bool hbt _) trodAll_mk0
  · rw [List.append_nil, hfn]
    exact trodAll_keep hb _ _ _ _ hs1 hA (fun p' hp' => hsp p' (List.mem_append_left _ hp'))
  · rw [List.append_nil, hfn, hvars]
    exact rfl
  · exact ok_one hrt rfl (okWide_bool_mk hbt _)
end
end Go.AL
