/-
  The walks over clauses and over lists without repetition.
-/
import Derived.Test.YtjeehkdepoiegaaGreatFacts
import Derived.Test.YtjeehkdepoiegaaGreatAbsS
import Derived.Test.YtjeehkdepoiegaaGreatAbsM
import Derived.Test.YtjeehkdepoiegaaGreatPlnM
import Derived.WalkKit
import Derived.Maps.OwnSet
namespace Go.Proofs.YtjeehkdepoiegaaGreat
open Go.AL Go.RowKit
set_option linter.unusedSimpArgs false
set_option linter.unusedVariables false
set_option maxRecDepth 10000
set_option maxHeartbeats 4000000
def dd88 : Nat → List (List Nat)
  | 0 => [[], [0], [2]]
  | 1 => [[], [], [3], [4], [5], [], [7], [8], [6, 9]]
  | 2 => [[1, 10], []]
  | 3 => [[10], [], [11]]
  | 4 => [[], [], [14]]
  | 5 => [[13], [], [16]]
  | 6 => [[15], [12], [18]]
  | 7 => [[12, 13], [], [19], [20], [21], [], [23], [], [25], [24, 26], [22, 27], [28], [], [30], [1], [32], [33], [31, 34], [29, 35]]
  | 8 => [[36], []]
  | 9 => [[12, 15, 17], [1], [37], [38]]
  | 10 => [[39], []]
  | 11 => [[1, 17, 36, 39], []]
  | _ => []
theorem window_c (w : Win) : ACall Tryz.prog 88 [.agg w.cells] (.lit (.int .i64 (winE w))) := by
  obtain ⟨kd, sz, ev⟩ := w
  unfold Win.cells winE
  refine acall_of (n := 40) (rs := [.tmp 2]) Tryz.func88 rfl (by kernel_rfl) rfl rfl rfl ?_; simp only [argsE, Nat.reduceAdd]
  repeat (any_goals (first | (refine aops_cons (fun K' h' => ?_); simp only [go_sem, Nat.reduceLT, Nat.reduceLeDiff, Nat.reduceEqDiff, reduceIte, Nat.reduceAdd, Nat.reduceMul, Nat.reduceSub, Int.reduceLT, Int.reduceLE, Int.reduceToNat, Int.reduceNeg, reduceCtorEq, hgs]; (try simp (disch := omega) only [wrap_id, getD_map_in, Int.toNat_natCast]); (repeat (refine And.intro (by (omega)) ?_)); refine h' _ ?_; clear h' K') | (refine aops_nil (hK _ ?_); clear hK K hgs gs; try simp only [aThen, aBlock]) | ((refine AWp.sreg (id := 1) dd88 rfl (fun gs K hgs hK => ?_)); replace hgs : gs 3 = some 6 := hgs 3) | ((refine AWp.sreg (id := 7) dd88 rfl (fun gs K hgs hK => ?_)); replace hgs : gs 3 = some 22 ∧ gs 10 = some 29 := ⟨hgs 3, hgs 10⟩) | (refine AWp.sreg  dd88 rfl (fun gs K hgs hK => ?_); replace hgs : Nat.succ 0 = 1 := rfl) | refine AWp.seq ?_ | refine AWp.block ?_ | (refine AWp.ret ?_; try simp only [aThen, aBlock]) | (refine AWp.skip ?_; try simp only [aThen, aBlock]) | (refine AWp.exit ?_; try simp only [aThen, aBlock, Nat.reduceEqDiff, reduceIte]) | (refine AWp.cond rfl (fun h => ?_) (fun h => ?_) <;> (try simp only [decide_eq_true_eq, decide_eq_false_iff_not, beq_iff_eq, bne_iff_ne, ne_eq, Bool.not_eq_true', Bool.not_eq_false', beq_eq_false_iff_ne, Bool.true_eq_false, Bool.false_eq_true, Int.not_le, Int.not_lt, Bool.and_eq_true, Bool.and_eq_false_iff, Bool.or_eq_true, Bool.or_eq_false_iff, bne_eq_false_iff_eq, reduceCtorEq] at h))))
  all_goals simp only [Out, outA, outL, resA, go_sem, Nat.reduceLT, Nat.reduceLeDiff, Nat.reduceEqDiff, reduceIte, Nat.reduceAdd, Nat.reduceMul, Nat.reduceSub, Int.reduceLT, Int.reduceLE, Int.reduceToNat, Int.reduceNeg, reduceCtorEq]
  all_goals refine AVle.of_eq (congrArg (fun n => AV.lit (.int .i64 n)) ?_)
  all_goals (try simp only [IntKind.wrap_i64] at *)
  all_goals first
    | (rw [if_pos (show winP _ by unfold winP; simp only; omega)]; done)
    | (rw [if_neg (show ¬ winP _ by unfold winP; simp only; omega)]; done)
def dd58 : Nat → List (List Nat)
  | 0 => [[], [0], [2]]
  | 1 => [[], [], [3], [4], [5], [], [7], [8], [6, 9]]
  | 2 => [[1, 10], []]
  | 3 => [[10], [], [11], [12]]
  | 4 => [[13], [], [14], [15], [16], [], [18], [], [20], [19, 21], [17, 22], [23], [], [25], [1], [27], [28], [26, 29], [24, 30], [31]]
  | 5 => [[13], [], [32], [33], [34], [], [36], [37], [35, 38], [39], [1], [41], [42], [40, 43], [44]]
  | _ => []
theorem fits_c (w : Win) : ACall Tryz.prog 58 [.agg w.cells] (.lit (.bool (decide (winP w)))) := by
  obtain ⟨kd, sz, ev⟩ := w
  unfold Win.cells
  refine acall_of (n := 45) (rs := [.tmp 2]) Tryz.func58 rfl (by kernel_rfl) rfl rfl rfl ?_; simp only [argsE, Nat.reduceAdd]
  repeat (any_goals (first | (refine aops_cons (fun K' h' => ?_); simp only [go_sem, Nat.reduceLT, Nat.reduceLeDiff, Nat.reduceEqDiff, reduceIte, Nat.reduceAdd, Nat.reduceMul, Nat.reduceSub, Int.reduceLT, Int.reduceLE, Int.reduceToNat, Int.reduceNeg, reduceCtorEq, hgs]; (try simp (disch := omega) only [wrap_id, getD_map_in, Int.toNat_natCast]); (repeat (refine And.intro (by (omega)) ?_)); refine h' _ ?_; clear h' K') | (refine aops_nil (hK _ ?_); clear hK K hgs gs; try simp only [aThen, aBlock]) | ((refine AWp.sreg (id := 1) dd58 rfl (fun gs K hgs hK => ?_)); replace hgs : gs 3 = some 6 := hgs 3) | ((refine AWp.sreg (id := 4) dd58 rfl (fun gs K hgs hK => ?_)); replace hgs : gs 3 = some 17 ∧ gs 10 = some 24 := ⟨hgs 3, hgs 10⟩) | ((refine AWp.sreg (id := 5) dd58 rfl (fun gs K hgs hK => ?_)); replace hgs : gs 3 = some 35 ∧ gs 8 = some 40 := ⟨hgs 3, hgs 8⟩) | (refine AWp.sreg  dd58 rfl (fun gs K hgs hK => ?_); replace hgs : Nat.succ 0 = 1 := rfl) | refine AWp.seq ?_ | (refine AWp.ret ?_; try simp only [aThen, aBlock]) | (refine AWp.skip ?_; try simp only [aThen, aBlock]) | (refine AWp.cond rfl (fun h => ?_) (fun h => ?_) <;> (try simp only [decide_eq_true_eq, decide_eq_false_iff_not, beq_iff_eq, bne_iff_ne, ne_eq, Bool.not_eq_true', Bool.not_eq_false', beq_eq_false_iff_ne, Bool.true_eq_false, Bool.false_eq_true, Int.not_le, Int.not_lt, Bool.and_eq_true, Bool.and_eq_false_iff, Bool.or_eq_true, Bool.or_eq_false_iff, bne_eq_false_iff_eq, reduceCtorEq] at h))))
  all_goals simp only [Out, outA, outL, resA, go_sem, Nat.reduceLT, Nat.reduceLeDiff, Nat.reduceEqDiff, reduceIte, Nat.reduceAdd, Nat.reduceMul, Nat.reduceSub, Int.reduceLT, Int.reduceLE, Int.reduceToNat, Int.reduceNeg, reduceCtorEq]
  all_goals refine AVle.of_eq (congrArg (fun b => AV.lit (.bool b)) ?_)
  all_goals (try simp only [IntKind.wrap_i64])
  · rw [decide_eq_false (show ¬ winP _ by unfold winP; simp only; omega)]
  · rw [Bool.eq_iff_iff]
    simp only [Bool.and_eq_true, decide_eq_true_eq]
    unfold winP
    simp only
    omega
  · rw [Bool.eq_iff_iff]
    simp only [Bool.and_eq_true, Bool.or_eq_true, beq_iff_eq, decide_eq_true_eq]
    unfold winP
    simp only
    omega
end Go.Proofs.YtjeehkdepoiegaaGreat
namespace Go.Proofs.YtjeehkdepoiegaaGreat
open Go.AL Go.RowKit Go.Maps Go.WideMaps
set_option linter.unusedSimpArgs false
set_option linter.unusedVariables false
def keysI (l : List Int) (k : Nat) : List Lit := (l.take k).map fun x => .int .i64 x
def Sn {H : Type} (l : List Int) (k : Nat) : DataW H := setOf (.lit (.bool true)) (keysI l k)
theorem keysI_succ (l : List Int) (k : Nat) (hk : k < l.length) : keysI l (k + 1) = keysI l k ++ [.int .i64 (l.getD k default)] := by
  unfold keysI
  rw [List.take_add_one, List.map_append]
  simp [List.getD, List.getElem?_eq_getElem hk]
theorem Sn_succ {H : Type} (l : List Int) (k : Nat) (hk : k < l.length) : Sn (H := H) l (k + 1) = (Sn l k).put (.int .i64 (l.getD k default)) (.lit (.bool true)) := by
  unfold Sn
  rw [keysI_succ l k hk, setOf_snoc]
theorem Sn_zero {H : Type} (l : List Int) : Sn (H := H) l 0 = .map [] := by simp [Sn, keysI, setOf]
theorem und_map : Tryz.prog.underlying 178 = some (.map 3 4) := by kernel_rfl
theorem und_int : Tryz.prog.underlying 3 = some (.int .i64) := by kernel_rfl
theorem und_bool : Tryz.prog.underlying 4 = some .bool := by kernel_rfl
theorem keyed : Keyed Tryz.prog 3 := int_keyed und_int
set_option maxRecDepth 100000 in
theorem distinct_none (a : Option Addr) (cap : Nat) (w : World) : Calls Tryz.prog 97 #[.slice a 0 cap] w fun e w' => e = .returned (.int .i64 0) ∧ Below w.heap.size w w' := by
  have hmm := @run_makeMap Tryz.prog
  go_enter Tryz.func97, Tryz.ntmps97
  go_wp2
  refine wp_loop_rounds 1 ?_
  rw [rounds_succ]
  go_wp2_with (first
    | (at_len; refine wpList_len_own _ rfl _ 178 rfl 3 4 und_map (plainElem (H := Unit) Tryz.prog 4) w.heap.size 0 (.map []) rfl (World.ownsMap_made _ _ _ _) ?_)
    | go_in)
  go_ret
  exact ⟨rfl, (Below.refl _ _).alloc (Nat.le_refl _) _⟩
set_option maxRecDepth 100000 in
theorem distinct_any (ad : Addr) (cap : Nat) (l : List Int) (w : World) (hreach : l.length * 16 ≤ 140737488351232) (hb : ad.block < w.heap.size)
    (hc : ∀ j, j < l.length → w.cell? (ad.add j) = some (.int .i64 (l.getD j default))) (hw : ∀ x ∈ l, (Lit.int .i64 x).wf = true) :
    Calls Tryz.prog 97 #[.slice (some ad) l.length cap] w fun e w' => e = .returned (.int .i64 (Maps.size (Sn (H := Unit) l l.length))) ∧ Below w.heap.size w w' := by
  have hmm := @run_makeMap Tryz.prog
  have hadd : ∀ k, (ad.add k).block = ad.block := fun k => by unfold Addr.add; split <;> rfl
  obtain ⟨g, hg⟩ : ∃ g : Nat → Int, ∀ j, l.getD j default = g j := ⟨_, fun _ => rfl⟩
  obtain ⟨n, hn⟩ : ∃ n, l.length = n := ⟨_, rfl⟩
  have hwg : ∀ j, j < n → (Lit.int .i64 (g j)).wf = true := fun j hj => by
    rw [← hg j]; exact hw _ (by rw [List.getD_eq_getElem?_getD, List.getElem?_eq_getElem (by omega)]; exact List.getElem_mem _)
  simp only [hg] at hc
  rw [hn] at hc hreach ⊢
  go_enter Tryz.func97, Tryz.ntmps97
  go_wp2
  go_loopw [9] (fun i wr => ∃ k : Nat, k ≤ n ∧ i = .int .i64 k ∧ wr.ownsMap Tryz.prog 3 (plainElem Tryz.prog 4) w.heap.size k (Sn (H := Unit) l k) ∧ Below w.heap.size w wr)
    (fun i _ => n - (intOf i).toNat)
  case atStart => exact ⟨0, Nat.zero_le _, rfl, by rw [Sn_zero]; exact World.ownsMap_made _ _ _ _, (Below.refl _ _).alloc (Nat.le_refl _) _⟩
  case round =>
    obtain ⟨k, hk, rfl, hown, hnx⟩ := hrel
    have hcx : k < n → wr.cell? (ad.add k) = some (.int .i64 (g k)) := fun h => (hnx.cell (by rw [hadd]; exact hb)).trans (hc k h)
    have hkey : k < n → keyOf Tryz.prog 3 (.int .i64 (g k)) = some (.int .i64 (g k)) := fun h => keyOf_int_mk und_int (hwg k h)
    go_wp2_with (first
      | (at_mapUpdate; refine wpList_mapUpdate_own _ rfl _ _ _ 178 rfl 3 4 keyed und_map (plainElem (H := Unit) Tryz.prog 4) w.heap.size k _ rfl hown (by unfold maxLen; omega) _ _ _ rfl rfl (hkey (by omega)) _ [] (plainElem_bool und_bool true) ?_; intro w1 hown1 hgrow1)
      | (at_len; refine wpList_len_own _ rfl _ 178 rfl 3 4 und_map _ w.heap.size k _ rfl hown ?_)
      | go_in)
    · have hlt : k < n := by assumption
      go_roundw
      case rel => exact ⟨k + 1, by omega, by go_num, by rw [Sn_succ l k (by omega), hg]; exact hown1, hnx.grown hgrow1 hnx.size (fun j hj => by cases hj; exact Nat.le_refl _)⟩
      case measure => simp [intOf]; omega
    · have : k = n := by omega
      subst this
      go_ret
      exact ⟨rfl, hnx⟩
theorem size_keys (l : List Int) : Maps.size (Sn (H := Unit) l l.length) = ((l.map fun x => Lit.int .i64 x).foldl addKey []).length := by
  unfold Sn keysI
  rw [List.take_length]
  exact size_setOf _ _ fun x hx => by
    obtain ⟨y, _, rfl⟩ := List.mem_map.1 hx
    trivial
def diffN (l : List Int) : Nat := ((l.map fun x => Lit.int .i64 x).foldl addKey []).length
theorem any_key (acc : List Lit) (x : Int) : (acc.any fun y => y.sameKey (.int .i64 x)) = true ↔ Lit.int .i64 x ∈ acc := by
  simp only [List.any_eq_true]
  constructor
  · rintro ⟨y, hy, h⟩
    rw [← WideAt.sameKey_eq h]; exact hy
  · intro h
    exact ⟨_, h, by simp [Lit.sameKey]⟩
theorem addKey_len : ∀ (l : List Int) (acc : List Lit), ((l.map fun x => Lit.int .i64 x).foldl addKey acc).length ≤ acc.length + l.length ∧
    (((l.map fun x => Lit.int .i64 x).foldl addKey acc).length = acc.length + l.length ↔ l.Nodup ∧ ∀ x ∈ l, Lit.int .i64 x ∉ acc)
  | [], acc => by simp
  | x :: l, acc => by
    simp only [List.map_cons, List.foldl_cons, List.length_cons]
    by_cases h : Lit.int .i64 x ∈ acc
    · have e : addKey acc (.int .i64 x) = acc := by unfold addKey; rw [if_pos ((any_key acc x).2 h)]
      rw [e]
      obtain ⟨h1, _⟩ := addKey_len l acc
      refine ⟨by omega, fun h2 => by omega, fun h2 => absurd h (h2.2 x (by simp))⟩
    · have e : addKey acc (.int .i64 x) = acc ++ [.int .i64 x] := by unfold addKey; rw [if_neg (fun h2 => h ((any_key acc x).1 h2))]
      rw [e]
      obtain ⟨h1, h2⟩ := addKey_len l (acc ++ [.int .i64 x])
      simp only [List.length_append, List.length_cons, List.length_nil] at h1 h2
      refine ⟨by omega, ?_⟩
      rw [show acc.length + (l.length + 1) = acc.length + (0 + 1) + l.length by omega, h2, List.nodup_cons]
      constructor
      · rintro ⟨a, b⟩
        refine ⟨⟨fun hx => b x hx (by simp), a⟩, fun y hy => ?_⟩
        rcases List.mem_cons.1 hy with rfl | hy
        · exact h
        · exact fun hc => b y hy (by simp [hc])
      · rintro ⟨⟨a, b⟩, c⟩
        refine ⟨b, fun y hy hc => ?_⟩
        rcases List.mem_append.1 hc with hc | hc
        · exact c y (by simp [hy]) hc
        · simp at hc; subst hc; exact a hy
theorem diffN_le (l : List Int) : diffN l ≤ l.length := by have := (addKey_len l []).1; unfold diffN; simpa using this
theorem diffN_eq (l : List Int) : diffN l = l.length ↔ l.Nodup := by have := (addKey_len l []).2; unfold diffN; simpa using this
theorem distinct_c (l : List Int) (hl : l.length ≤ 1000) (hw : ∀ x ∈ l, -9223372036854775808 ≤ x ∧ x ≤ 9223372036854775807) : ACall Tryz.prog 97 [intsV l] (.lit (.int .i64 (diffN l : Int))) := by
  refine ⟨⟨_, Tryz.func97, by kernel_rfl, by kernel_rfl⟩, fun w S us hS hlen hV => ?_⟩
  obtain ⟨u, rfl⟩ : ∃ u, us = [u] := by
    match us, hlen with
    | [u], _ => exact ⟨u, rfl⟩
  have hv := hV 0 _ u rfl rfl
  unfold intsV at hv
  cases hv with
  | ro U hn hc hm hz hA hvv =>
    rename_i A n c
    simp only [List.length_map] at hn
    subst hn
    cases l with
    | nil => exact (distinct_none A c w).mono fun e w' ⟨h1, h2⟩ => ⟨_, h1, h2, .lit⟩
    | cons x0 l0 =>
      obtain ⟨ad, rfl, hSb, hcell⟩ := hA (by simp)
      refine (distinct_any ad c (x0 :: l0) w (by omega) (hS _ hSb) (fun j hj => ?_) (fun x hx => ?_)).mono fun e w' ⟨h1, h2⟩ => ⟨_, h1, h2, ?_⟩
      · have e1 : ((x0 :: l0).map fun x => [AV.lit (.int .i64 x)])[j]? = some [AV.lit (.int .i64 ((x0 :: l0).getD j default))] := by
          rw [List.getElem?_map, List.getElem?_eq_getElem hj]
          simp [List.getD_eq_getElem?_getD, List.getElem?_eq_getElem hj]
        have h3 := (hcell j _ 0 _ e1 rfl).1
        have h4 := (hvv j _ 0 _ e1 rfl).lit_eq
        rw [show j * 1 + 0 = j by omega, h4] at h3
        exact h3
      · have := hw x hx
        have e1 : IntKind.i64.min = -9223372036854775808 := by decide
        have e2 : IntKind.i64.max = 9223372036854775807 := by decide
        simp [Lit.wf, e1, e2]
        omega
      · rw [size_keys]; exact .lit
end Go.Proofs.YtjeehkdepoiegaaGreat
