/-
  The shapes of tasks, messages, sends and events that a call may be handed.
-/
import Derived.Test.YtfmnjgjfkfppkaaTskM
import Derived.Test.YtfmnjgjfkfppkaaFacts
namespace Go.Proofs.Ytfmnjgjfkfppkaa
open Go.AL Go.RowKit
set_option linter.unusedSimpArgs false
set_option linter.unusedVariables false
set_option maxRecDepth 10000

theorem sh_i64 {cs : List AV} {d : Nat} (h : Shp Try.prog (d + 1) 2 cs) : ∃ a : Int, cs = [.lit (.int .i64 a)] := by
  obtain ⟨a, rfl, _⟩ := shp_in (k := .i64) (by kernel_rfl) h
  exact ⟨a, rfl⟩
theorem sh_int {cs : List AV} {d : Nat} (h : Shp Try.prog (d + 1) 3 cs) : ∃ a : Int, cs = [.lit (.int .i64 a)] := by
  obtain ⟨a, rfl, _⟩ := shp_in (k := .i64) (by kernel_rfl) h
  exact ⟨a, rfl⟩
theorem sh_u8 {cs : List AV} {d : Nat} (h : Shp Try.prog (d + 1) 5 cs) : ∃ a : Int, cs = [.lit (.int .u8 a)] := by
  obtain ⟨a, rfl, _⟩ := shp_in (k := .u8) (by kernel_rfl) h
  exact ⟨a, rfl⟩
theorem sh_rec {cs : List AV} {d : Nat} (h : Shp Try.prog (d + 2) 46 cs) : ∃ r : Rcd, cs = r.cells := by
  obtain ⟨a, r, rfl, ha, g1⟩ := shp_st (ts := [2, 2, 2]) (by kernel_rfl) h
  obtain ⟨b, r, rfl, hb, g2⟩ := g1
  obtain ⟨c, r, rfl, hc, g3⟩ := g2
  obtain rfl : r = [] := g3
  obtain ⟨xa, rfl⟩ := sh_i64 ha
  obtain ⟨xb, rfl⟩ := sh_i64 hb
  obtain ⟨xc, rfl⟩ := sh_i64 hc
  exact ⟨⟨xa, xb, xc⟩, rfl⟩
theorem sh_span {cs : List AV} {d : Nat} (h : Shp Try.prog (d + 2) 48 cs) : ∃ a b : Int, cs = [.lit (.int .i64 a), .lit (.int .i64 b)] := by
  obtain ⟨a, r, rfl, ha, g1⟩ := shp_st (ts := [2, 2]) (by kernel_rfl) h
  obtain ⟨b, r, rfl, hb, g2⟩ := g1
  obtain rfl : r = [] := g2
  obtain ⟨xa, rfl⟩ := sh_i64 ha
  obtain ⟨xb, rfl⟩ := sh_i64 hb
  exact ⟨xa, xb, rfl⟩
theorem two_of {α : Type} {l : List α} (h : l.length = 2) : ∃ a b, l = [a, b] := by
  match l, h with
  | [a, b], _ => exact ⟨a, b, rfl⟩
theorem sh_row {cs : List AV} {d : Nat} (h : Shp Try.prog (d + 3) 51 cs) : ∃ r : RowT, cs = r.cells := by
  obtain ⟨a, r, rfl, ha, g1⟩ := shp_st (ts := [2, 48, 49]) (by kernel_rfl) h
  obtain ⟨b, r, rfl, hb, g2⟩ := g1
  obtain ⟨c, r, rfl, hc, g3⟩ := g2
  obtain rfl : r = [] := g3
  obtain ⟨xa, rfl⟩ := sh_i64 ha
  obtain ⟨xs, xe, rfl⟩ := sh_span hb
  obtain ⟨ys, rfl, hl, hy⟩ := shp_ar (q := (2, 2)) (by kernel_rfl) hc
  obtain ⟨y0, y1, rfl⟩ := two_of hl
  obtain ⟨v0, rfl⟩ := sh_i64 (hy y0 (by simp))
  obtain ⟨v1, rfl⟩ := sh_i64 (hy y1 (by simp))
  exact ⟨⟨xa, xs, xe, v0, v1⟩, rfl⟩
theorem sh_msg {cs : List AV} {d : Nat} (h : Shp Try.prog (d + 4) 53 cs) : ∃ m : Msg, cs = m.cells := by
  obtain ⟨a, r, rfl, ha, g1⟩ := shp_st (ts := [5, 46, 2, 51]) (by kernel_rfl) h
  obtain ⟨b, r, rfl, hb, g2⟩ := g1
  obtain ⟨c, r, rfl, hc, g3⟩ := g2
  obtain ⟨e, r, rfl, he, g4⟩ := g3
  obtain rfl : r = [] := g4
  obtain ⟨xa, rfl⟩ := sh_u8 ha
  obtain ⟨⟨k, t, v⟩, rfl⟩ := sh_rec hb
  obtain ⟨xt, rfl⟩ := sh_i64 hc
  obtain ⟨⟨r1, r2, r3, r4, r5⟩, rfl⟩ := sh_row he
  exact ⟨⟨xa, k, t, v, xt, r1, r2, r3, r4, r5⟩, rfl⟩
theorem sh_snd {cs : List AV} {d : Nat} (h : Shp Try.prog (d + 5) 56 cs) : ∃ s : Snd, cs = s.cells := by
  obtain ⟨a, r, rfl, ha, g1⟩ := shp_st (ts := [3, 53]) (by kernel_rfl) h
  obtain ⟨b, r, rfl, hb, g2⟩ := g1
  obtain rfl : r = [] := g2
  obtain ⟨xa, rfl⟩ := sh_int ha
  obtain ⟨m, rfl⟩ := sh_msg hb
  exact ⟨⟨xa, m⟩, by simp [Snd.cells]⟩
theorem sh_event {cs : List AV} {d : Nat} (h : Shp Try.prog (d + 3) 82 cs) : ∃ e : Ev, cs = e.cells := by
  obtain ⟨a, r, rfl, ha, g1⟩ := shp_st (ts := [4, 2, 46]) (by kernel_rfl) h
  obtain ⟨b, r, rfl, hb, g2⟩ := g1
  obtain ⟨c, r, rfl, hc, g3⟩ := g2
  obtain rfl : r = [] := g3
  obtain ⟨xa, rfl⟩ := shp_bo (by kernel_rfl) ha
  obtain ⟨xb, rfl⟩ := sh_i64 hb
  obtain ⟨⟨k, t, v⟩, rfl⟩ := sh_rec hc
  exact ⟨⟨xa, xb, k, t, v⟩, rfl⟩
theorem sh_acc {cs : List AV} {d : Nat} (h : Shp Try.prog (d + 2) 85 cs) : ∃ a b c e : Int, cs = [.lit (.int .i64 a), .lit (.int .i64 b), .lit (.int .i64 c), .lit (.int .i64 e)] := by
  obtain ⟨a, r, rfl, ha, g1⟩ := shp_st (ts := [2, 2, 2, 2]) (by kernel_rfl) h
  obtain ⟨b, r, rfl, hb, g2⟩ := g1
  obtain ⟨c, r, rfl, hc, g3⟩ := g2
  obtain ⟨e, r, rfl, he, g4⟩ := g3
  obtain rfl : r = [] := g4
  obtain ⟨xa, rfl⟩ := sh_i64 ha
  obtain ⟨xb, rfl⟩ := sh_i64 hb
  obtain ⟨xc, rfl⟩ := sh_i64 hc
  obtain ⟨xe, rfl⟩ := sh_i64 he
  exact ⟨xa, xb, xc, xe, rfl⟩
theorem sh_ent {cs : List AV} {d : Nat} (h : Shp Try.prog (d + 4) 88 cs) : ∃ e : Ent, cs = e.cells := by
  obtain ⟨a, r, rfl, ha, g1⟩ := shp_st (ts := [2, 48, 86]) (by kernel_rfl) h
  obtain ⟨b, r, rfl, hb, g2⟩ := g1
  obtain ⟨c, r, rfl, hc, g3⟩ := g2
  obtain rfl : r = [] := g3
  obtain ⟨xa, rfl⟩ := sh_i64 ha
  obtain ⟨xs, xe, rfl⟩ := sh_span hb
  obtain ⟨ys, rfl, hl, hy⟩ := shp_ar (q := (2, 85)) (by kernel_rfl) hc
  obtain ⟨y0, y1, rfl⟩ := two_of hl
  obtain ⟨a0, a1, a2, a3, rfl⟩ := sh_acc (hy y0 (by simp))
  obtain ⟨b0, b1, b2, b3, rfl⟩ := sh_acc (hy y1 (by simp))
  exact ⟨⟨xa, xs, xe, a0, a1, a2, a3, b0, b1, b2, b3⟩, rfl⟩
theorem sh_list {α : Type} {f : α → List AV} {cs : List AV} {d : Nat} {t : TypeId} {q : TypeId × Nat} (hq : slT Try.prog t = some q) (h : Shp Try.prog (d + 1) t cs) (he : ∀ x, Shp Try.prog d q.1 x → ∃ e, x = f e) : ∃ l : List α, cs = [.ro q.2 (l.map f)] ∧ l.length ≤ maxLen := by
  obtain ⟨xs, e, hm, hx⟩ := shp_sl hq h
  obtain ⟨l, rfl⟩ := list_of (f := f) fun x hx' => he x (hx x hx')
  exact ⟨l, e, by simpa using hm⟩
theorem msg_shape {a : AV} (h : ShpA Try.prog 8 53 a) : ∃ m : Msg, a = .agg m.cells := by
  obtain ⟨cs, rfl, hs⟩ := shpA_st (ts := [5, 46, 2, 51]) (by kernel_rfl) h
  obtain ⟨a, r, rfl, ha, g1⟩ := hs
  obtain ⟨b, r, rfl, hb, g2⟩ := g1
  obtain ⟨c, r, rfl, hc, g3⟩ := g2
  obtain ⟨e, r, rfl, he, g4⟩ := g3
  obtain rfl : r = [] := g4
  obtain ⟨xa, rfl⟩ := sh_u8 ha
  obtain ⟨⟨k, t, v⟩, rfl⟩ := sh_rec hb
  obtain ⟨xt, rfl⟩ := sh_i64 hc
  obtain ⟨⟨r1, r2, r3, r4, r5⟩, rfl⟩ := sh_row he
  exact ⟨⟨xa, k, t, v, xt, r1, r2, r3, r4, r5⟩, rfl⟩
theorem tsk_shape {a : AV} (h : ShpA Try.prog 8 40 a) : ∃ t : Tsk, a = .agg t.cells ∧ t.ok := by
  obtain ⟨cs, rfl, hs⟩ := shpA_st (ts := [32, 3, 33, 34, 35, 36, 37, 38]) (by kernel_rfl) h
  obtain ⟨c1, r, rfl, g1, hs⟩ := hs
  obtain ⟨c2, r, rfl, g2, hs⟩ := hs
  obtain ⟨c3, r, rfl, g3, hs⟩ := hs
  obtain ⟨c4, r, rfl, g4, hs⟩ := hs
  obtain ⟨c5, r, rfl, g5, hs⟩ := hs
  obtain ⟨c6, r, rfl, g6, hs⟩ := hs
  obtain ⟨c7, r, rfl, g7, hs⟩ := hs
  obtain ⟨c8, r, rfl, g8, hs⟩ := hs
  obtain rfl : r = [] := hs
  obtain ⟨a, r, rfl, ha, q1⟩ := shp_st (ts := [5, 3]) (by kernel_rfl) g1
  obtain ⟨b, r, rfl, hb, q2⟩ := q1
  obtain rfl : r = [] := q2
  obtain ⟨kd, rfl⟩ := sh_u8 ha
  obtain ⟨n, rfl⟩ := sh_int hb
  obtain ⟨tn, rfl⟩ := sh_int g2
  obtain ⟨pe, rfl, m1⟩ := sh_list (f := Snd.cells) (q := (56, 11)) (by kernel_rfl) g3 fun x hx => sh_snd hx
  obtain ⟨mk, rfl, m2⟩ := sh_list (f := intC) (q := (2, 1)) (by kernel_rfl) g4 fun x hx => sh_i64 hx
  obtain ⟨st, rfl, m3⟩ := sh_list (f := Ent.cells) (q := (88, 11)) (by kernel_rfl) g5 fun x hx => sh_ent hx
  obtain ⟨ev, rfl, m4⟩ := sh_list (f := Ev.cells) (q := (82, 5)) (by kernel_rfl) g6 fun x hx => sh_event hx
  obtain ⟨rw_, rfl, m5⟩ := sh_list (f := RowT.cells) (q := (51, 5)) (by kernel_rfl) g7 fun x hx => sh_row hx
  obtain ⟨lt, rfl, m6⟩ := sh_list (f := Rcd.cells) (q := (46, 3)) (by kernel_rfl) g8 fun x hx => sh_rec hx
  exact ⟨⟨kd, n, tn, pe, mk, st, ev, rw_, lt⟩, rfl, ⟨m1, m2, m3, m4, m5, m6⟩⟩
theorem msgs_shape {a : AV} (h : ShpA Try.prog 8 28 a) : ∃ l : List Msg, a = msgsV l ∧ l.length ≤ maxLen := by
  obtain ⟨l, e, hm⟩ := sh_list (f := Msg.cells) (q := (53, 10)) (by kernel_rfl) (shpA_one (by kernel_rfl) h) fun x hx => sh_msg hx
  exact ⟨l, by simpa [msgsV] using e, hm⟩
theorem int_shape2 {a : AV} {t : TypeId} (h : ShpA Try.prog 8 t a) (h1 : stT Try.prog t = none) (h2 : inT Try.prog t = some .i64) : ∃ n : Int, a = .lit (.int .i64 n) ∧ -9223372036854775808 ≤ n ∧ n ≤ 9223372036854775807 := by
  obtain ⟨n, e, hw⟩ := shp_in (k := .i64) h2 (shpA_one h1 h)
  exact ⟨n, by simpa using e, wf_i64 hw⟩
end Go.Proofs.Ytfmnjgjfkfppkaa
