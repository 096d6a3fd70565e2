/-
  The rounds of filtered30's loop over the messages of a source's events: what comes aside, what passes, what is raised.
-/
import Derived.Test.YtjeehkdepoiegaaGreatFilAB
import Derived.Test.YtjeehkdepoiegaaGreatFilC
import Derived.Test.YtjeehkdepoiegaaGreatFltW2
import Derived.Test.YtjeehkdepoiegaaGreatPrtW2
import Derived.Test.YtjeehkdepoiegaaGreatStpX
namespace Go.Proofs.YtjeehkdepoiegaaGreat
open Go.AL Go.RowKit
set_option linter.unusedSimpArgs false
set_option linter.unusedVariables false
def evRcd (e : Ev) : Rcd := ⟨e.key, e.rt, e.value⟩
def topMark (l : List Ev) : Int := l.foldl markU lowM
def asideF (q : Qry) (l : List Ev) : List Rcd := if q.late = 2 then splitG true lowM l else []
noncomputable def wantF (q : Qry) (l : List Rcd) : List Rcd := (l.filter (passB q)).map (projR q)
noncomputable def passedF (q : Qry) (l : List Ev) : List Rcd := wantF q (splitG false lowM l)
theorem valid_ev {e : Ev} (h : okE e = true) : validM (told e) = true := by
  have := send_told h
  unfold sendB at this
  simp only [Bool.and_eq_true] at this
  exact this.2
theorem low_marks : ∀ (l : List Ev) (m : Int), lowB m = true → (∀ e ∈ l, okE e = true) → lowB (l.foldl markU m) = true
  | [], m, h, _ => h
  | e :: l, m, h, ho => low_marks l (markU m e) (by
      unfold markU
      split
      · rename_i hm
        have := ho e (by simp)
        unfold okE at this
        rw [if_pos hm] at this
        simp only [Bool.and_eq_true] at this
        rcases Int.le_total m e.time with g | g
        · rw [Int.max_eq_right g]; unfold lowB; simp [this.1]
        · rw [Int.max_eq_left g]; exact h
      · exact h) (fun x hx => ho x (by simp [hx]))
theorem raisedG_len : ∀ (l : List Ev) (m : Int), raisedG m l ≤ l.length
  | [], m => Nat.le_refl _
  | x :: l, m => by
    have := raisedG_len l (markU m x)
    simp only [raisedG, List.length_cons]
    split <;> omega
theorem wantF_len (q : Qry) (l : List Rcd) : (wantF q l).length ≤ l.length := by
  unfold wantF
  simpa using List.length_filter_le (passB q) l
theorem fTake_of (q : Qry) (mk : Int) (e : Ev) (hq : q.fit) (ha : accE q = 0) (hB : (evRcd e).B) (hlow : lowB mk = true) (ho : okE e = true) : fTake q mk (told e) ((fouts q mk (told e)).map Snd.cells) (fmark mk (told e)) := by
  have hr : (told e).rcd.B := by
    unfold told Msg.rcd
    split
    · have h0 : i64B 0 := ⟨by omega, by omega⟩
      exact ⟨h0, h0, h0⟩
    · exact hB
  have hc : carrF (told e) = true := by
    unfold carrF
    rw [valid_ev ho]
    unfold told
    split <;> rfl
  exact (takeF_good q 0 0 mk (told e) hq hr ha (filt_ok [] (by omega) hlow (by simp) rfl) hc).mono
    (.cons (.refl _) (.cons (AVle.agg ⟨AVle.refl _, AVle.refl _, AVle.refl _, AVle.nil 11, AVle.refl _, AVle.refl _, AVle.refl _, AVle.refl _, AVle.refl _, trivial⟩) (.refl _))) (AVle.refl _)
theorem pTake_of (m : Msg) (p : Int) (hv : validM m = true) (hk : m.kind = 1 ∨ m.kind = 2) (hp : p = 1 ∨ p = 2 ∨ p = 3) : pTake m.cells p ((outsL m p).map Snd.cells) := by
  have hc : carrB m = true := by unfold carrB; rw [hv]; rcases hk with h | h <;> rw [h] <;> rfl
  have h := takeP_c ⟨3, 0, 0, [], [], [], [], [], []⟩ m p ⟨by simp, by simp, by simp, by simp, by simp, by simp⟩
  have h0 : tskE ⟨3, 0, 0, [], [], [], [], [], []⟩ = 0 := by decide
  have hE : takeE ⟨3, 0, 0, [], [], [], [], [], []⟩ m p = 0 := by
    unfold takeE
    rw [if_neg (fun g => g h0), if_neg (by simp only; omega), if_neg (by rw [hc]; simp), if_neg (by simp)]
  have hT : takeT ⟨3, 0, 0, [], [], [], [], [], []⟩ m p = ⟨3, 0, 0, outsL m p, [], [], [], [], []⟩ := by
    unfold takeT
    rw [if_pos hE]
  rw [hE, hT] at h
  exact h
theorem fround_of (q : Qry) (l : List Ev) (p : Int) (R L : List (List AV)) (hq : q.fit) (ha : accE q = 0) (hok : ∀ e ∈ l, okE e = true) (hl : l.length ≤ 40) (hB : ∀ e ∈ l, (evRcd e).B) (hp : p = 1 ∨ p = 2 ∨ p = 3) (k : Nat) (hk : k < l.length) :
    fRound q l (l.map told) p R L k (asideF q (l.take k)) (passedF q (l.take k)) (marksC p (raisedG lowM (l.take k) : Nat)) (topMark (l.take k)) (asideF q (l.take (k + 1))) (passedF q (l.take (k + 1))) (marksC p (raisedG lowM (l.take (k + 1)) : Nat)) (topMark (l.take (k + 1))) := by
  obtain ⟨e, he⟩ : ∃ e, l.getD k default = e := ⟨_, rfl⟩
  have hmem : e ∈ l := by rw [← he, List.getD_eq_getElem?_getD, List.getElem?_eq_getElem hk]; exact List.getElem_mem _
  have hoke := hok e hmem
  have hlow : lowB (topMark (l.take k)) = true := low_marks (l.take k) lowM (by decide) (fun x hx => hok x (List.mem_of_mem_take hx))
  have hst := take_snocE hk he
  have e1 : splitG true lowM (l.take (k + 1)) = splitG true lowM (l.take k) ++ oneL true (topMark (l.take k)) e := by rw [hst]; exact splitG_snoc true e _ _
  have e2 : splitG false lowM (l.take (k + 1)) = splitG false lowM (l.take k) ++ oneL false (topMark (l.take k)) e := by rw [hst]; exact splitG_snoc false e _ _
  have e3 : topMark (l.take (k + 1)) = markU (topMark (l.take k)) e := by unfold topMark; rw [hst, List.foldl_append]; rfl
  have e4 : raisedG lowM (l.take (k + 1)) = raisedG lowM (l.take k) + (if e.mark = true ∧ topMark (l.take k) < e.time then 1 else 0) := by rw [hst]; exact raisedG_snoc e _ _
  have hms : (l.map told).getD k default = told e := by
    rw [List.getD_eq_getElem?_getD, List.getElem?_eq_getElem hk] at he
    rw [List.getD_eq_getElem?_getD, List.getElem?_map, List.getElem?_eq_getElem hk, ← he]
    rfl
  have hln : (l.map told).length ≤ 60 := by simp; omega
  have hkn : k < (l.map told).length := by simpa using hk
  have htl : (l.take k).length ≤ 40 := by simp; omega
  have b0 := splitG_len true (l.take k) lowM
  have b1 : (asideF q (l.take k)).length ≤ 60 := by
    unfold asideF
    split
    · omega
    · simp
  have b2 : (passedF q (l.take k)).length ≤ 60 := by
    have h1 := splitG_len false (l.take k) lowM
    have h2 := wantF_len q (splitG false lowM (l.take k))
    unfold passedF
    omega
  have b3 : 0 ≤ ((raisedG lowM (l.take k) : Nat) : Int) ∧ ((raisedG lowM (l.take k) : Nat) : Int) ≤ 60 := by
    have := raisedG_len (l.take k) lowM
    omega
  have hTk := fTake_of q (topMark (l.take k)) e hq ha (hB e hmem) hlow hoke
  have e5 : asideF q (l.take (k + 1)) = asideF q (l.take k) ++ (if q.late = 2 then oneL true (topMark (l.take k)) e else []) := by
    unfold asideF
    by_cases h : q.late = 2
    · rw [if_pos h, if_pos h, if_pos h, e1]
    · rw [if_neg h, if_neg h, if_neg h]; rfl
  have e6 : passedF q (l.take (k + 1)) = passedF q (l.take k) ++ wantF q (oneL false (topMark (l.take k)) e) := by
    unfold passedF wantF
    rw [e2, List.filter_append, List.map_append]
  rw [e3, e4, e5, e6]
  have hv := valid_ev hoke
  generalize topMark (l.take k) = mk at *
  generalize asideF q (l.take k) = aa at *
  generalize passedF q (l.take k) = ps at *
  generalize raisedG lowM (l.take k) = c at *
  clear e1 e2 e3 e4 e5 e6 hst b0 htl hlow
  cases hm : e.mark with
  | true =>
    have ht : told e = ⟨2, 0, 0, 0, e.time, 0, 0, 0, 0, 0⟩ := by unfold told; rw [if_pos hm]
    have o1 : oneL true mk e = [] := by unfold oneL; rw [if_pos hm]
    have o2 : oneL false mk e = [] := by unfold oneL; rw [if_pos hm]
    have hmu : markU mk e = max mk e.time := by unfold markU; rw [if_pos hm]
    have hf : fouts q mk (told e) = if e.time ≤ mk then [] else [⟨0, told e⟩] := by unfold fouts; rw [ht, if_pos rfl]
    have hfm : fmark mk (told e) = if e.time ≤ mk then mk else e.time := by unfold fmark; rw [ht, if_pos rfl]
    rw [o1, o2, hmu]
    rw [show (if q.late = 2 then ([] : List Rcd) else []) = [] by split <;> rfl, show wantF q [] = [] from rfl, List.append_nil, List.append_nil]
    by_cases hle : e.time ≤ mk
    · rw [hf, hfm, if_pos hle, if_pos hle] at hTk
      rw [if_neg (by omega), Int.max_eq_left hle]
      exact fround_0 q l _ p R L k aa ps _ mk mk (told e) hln hkn hms b1 b2 hTk
    · rw [hf, hfm, if_neg hle, if_neg hle] at hTk
      rw [if_pos ⟨rfl, by omega⟩, Int.max_eq_right (by omega), Int.natCast_add, Int.natCast_one]
      have hPt := pTake_of (told e) p hv (by rw [ht]; exact .inr rfl) hp
      rw [ht] at hTk hPt
      rcases hp with rfl | rfl | rfl
      · exact fround_m1 q l _ R L k aa ps c mk (told e) hln hkn hms b1 b2 e.time b3 (ht ▸ hTk) hPt
      · exact fround_m2 q l _ R L k aa ps c mk (told e) hln hkn hms b1 b2 e.time b3 (ht ▸ hTk) hPt
      · exact fround_m3 q l _ R L k aa ps c mk (told e) hln hkn hms b1 b2 e.time b3 (ht ▸ hTk) hPt
  | false =>
    have ht : told e = ⟨1, e.key, e.rt, e.value, 0, 0, 0, 0, 0, 0⟩ := by unfold told; rw [if_neg (by rw [hm]; decide)]
    have hmu : markU mk e = mk := by unfold markU; rw [if_neg (by rw [hm]; decide)]
    have hfm : fmark mk (told e) = mk := by unfold fmark; rw [ht, if_neg (show ¬ ((1 : Int) = 2) by decide)]
    have hrc : (told e).rcd = evRcd e := by rw [ht]; rfl
    have hf : fouts q mk (told e) = if e.rt < mk then (if q.late ≠ 2 then [] else [⟨1, lateM (evRcd e)⟩]) else if passB q (evRcd e) = true then [⟨0, recM (projR q (evRcd e))⟩] else [] := by
      unfold fouts
      rw [hrc, ht, if_neg (show ¬ ((1 : Int) = 2) by decide)]
    have ho : ∀ b, oneL b mk e = if decide (e.rt < mk) = b then [evRcd e] else [] := fun b => by unfold oneL; rw [if_neg (by rw [hm]; decide)]; rfl
    rw [hmu, if_neg (show ¬ (false = true ∧ mk < e.time) by simp), Nat.add_zero, ho, ho]
    rw [hfm, hf] at hTk
    by_cases hlt : e.rt < mk
    · rw [if_pos hlt] at hTk
      rw [decide_eq_true hlt, if_pos (rfl : true = true), if_neg (show ¬ (true = false) by decide), show wantF q [] = [] from rfl, List.append_nil]
      by_cases h2 : q.late = 2
      · rw [if_neg (fun h => h h2)] at hTk
        rw [if_pos h2]
        exact fround_l q l _ p R L k aa ps _ mk (told e) hln hkn hms b1 b2 (evRcd e) hTk
      · rw [if_pos h2] at hTk
        rw [if_neg h2, List.append_nil]
        exact fround_0 q l _ p R L k aa ps _ mk mk (told e) hln hkn hms b1 b2 hTk
    · rw [if_neg hlt] at hTk
      rw [decide_eq_false hlt, if_neg (show ¬ (false = true) by decide), if_pos (rfl : false = false), show (if q.late = 2 then ([] : List Rcd) else []) = [] by split <;> rfl, List.append_nil]
      by_cases hpa : passB q (evRcd e) = true
      · rw [if_pos hpa] at hTk
        have hw : wantF q [evRcd e] = [projR q (evRcd e)] := by unfold wantF; simp [hpa]
        rw [hw]
        have htm : isTimeB e.rt = true := rec_time (m := told e) hv (by rw [ht])|> fun h => by rw [ht] at h; exact h
        have hpt : (projR q (evRcd e)).t = e.rt := by unfold projR; rw [if_pos hpa]; rfl
        have hvr : validM (recM (projR q (evRcd e))) = true := by rw [← hpt, ← right_time] at htm; exact htm
        have hPt := pTake_of (recM (projR q (evRcd e))) p hvr (.inl rfl) hp
        have hOf := ofP_c (projR q (evRcd e)).key p
        have ho1 : ofP (projR q (evRcd e)).key p = (projR q (evRcd e)).key % p := by unfold ofP; rw [if_neg (by omega)]
        have ho2 : ofX p = 0 := by unfold ofX; rw [if_neg (by omega)]
        rw [ho1, ho2] at hOf
        rw [show outsL (recM (projR q (evRcd e))) p = [⟨(projR q (evRcd e)).key % p, recM (projR q (evRcd e))⟩] from rfl] at hPt
        exact fround_r q l _ p R L k aa ps _ mk (told e) hln hkn hms b1 b2 (projR q (evRcd e)) ((projR q (evRcd e)).key % p) (emod_bd _ p hp) hTk hPt hOf
      · rw [if_neg hpa] at hTk
        have hw : wantF q [evRcd e] = [] := by unfold wantF; simp [hpa]
        rw [hw, List.append_nil]
        exact fround_0 q l _ p R L k aa ps _ mk mk (told e) hln hkn hms b1 b2 hTk
end Go.Proofs.YtjeehkdepoiegaaGreat
