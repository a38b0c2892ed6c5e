/- Room: the plain law of Fits. No program in sight. -/
import Derived.Test.YtnnmeipmkfbpdaaPlain3
namespace Go.RoomLaw

theorem fitP_none (size align from_ until_ : Int) : ∀ l : List Sp, (fitP size align from_ until_ l).2 = false → fitP size align from_ until_ l = (0, false)
  | [], _ => rfl
  | x :: r, h => by
    unfold fitP at h ⊢
    split
    · rename_i hc
      rw [if_pos hc] at h
      cases h
    · rename_i hc
      rw [if_neg hc] at h
      exact fitP_none size align from_ until_ r h
/-- There is room for the size at c. -/
def fitsAt (l : List Sp) (size c : Int) : Prop := ∃ x ∈ l, x.1 ≤ c ∧ c + size ≤ x.1 + x.2
theorem fitP_some {size align from_ until_ : Int} (ha : 1 ≤ align) : ∀ l : List Sp, (fitP size align from_ until_ l).2 = true →
    ∃ c, fitP size align from_ until_ l = (c, true) ∧ fitsAt l size c ∧ from_ ≤ c ∧ c + size ≤ until_ ∧ c % align = 0
  | [], h => by cases h
  | x :: r, h => by
    unfold fitP at h ⊢
    split
    · rename_i hc
      have hu := U_ge (X := max x.1 from_) ha
      exact ⟨_, rfl, ⟨x, List.mem_cons_self .., by omega, by omega⟩, by omega, by omega, U_mod⟩
    · rename_i hc
      rw [if_neg hc] at h
      obtain ⟨c, h1, ⟨y, hy, h2⟩, h3⟩ := fitP_some ha r h
      exact ⟨c, h1, ⟨y, List.mem_cons_of_mem _ hy, h2⟩, h3⟩
theorem fitP_least {size align from_ until_ : Int} (hs : 1 ≤ size) (ha : 1 ≤ align) : ∀ (l : List Sp) (lo c : Int), R lo l → fitsAt l size c → from_ ≤ c → c + size ≤ until_ → c % align = 0 →
    (fitP size align from_ until_ l).2 = true ∧ (fitP size align from_ until_ l).1 ≤ c
  | [], _, _, _, ⟨_, h, _⟩, _, _, _ => by cases h
  | y :: r, lo, c, ⟨h1, h2, h3, h4, h5⟩, ⟨x, hx, k1, k2⟩, hf, hu, hc => by
    have hU := U_ge (X := max y.1 from_) ha
    unfold fitP
    rcases List.mem_cons.1 hx with rfl | hx
    · have hl := U_least ha hc (show max x.1 from_ ≤ c by omega)
      rw [if_pos (by omega)]
      exact ⟨rfl, hl⟩
    · have he := R_elem h5 hx
      split
      · exact ⟨rfl, by simp only; omega⟩
      · exact fitP_least hs ha r _ c h5 ⟨x, hx, k1, k2⟩ hf hu hc
theorem R_gap : ∀ {l : List Sp} {lo : Int}, R lo l → ∀ {x}, x ∈ l → ¬ mem l (x.1 + x.2)
  | [], _, _, _, h => by cases h
  | y :: r, lo, ⟨h1, h2, h3, h4, h5⟩, x, hx => by
    intro hm
    rcases List.mem_cons.1 hx with rfl | hx
    · rcases mem_cons.1 hm with hm | hm
      · unfold ins at hm
        omega
      · have := R_mem h5 hm
        omega
    · rcases mem_cons.1 hm with hm | hm
      · have := R_elem h5 hx
        unfold ins at hm
        omega
      · exact R_gap h5 hx hm
theorem fits_of_mem {l : List Sp} (h : R (-1) l) {size c : Int} (hs : 1 ≤ size) (hm : ∀ a, c ≤ a → a < c + size → mem l a) : fitsAt l size c := by
  obtain ⟨x, hx, hi⟩ := hm c (Int.le_refl _) (by omega)
  unfold ins at hi
  refine ⟨x, hx, hi.1, ?_⟩
  by_cases hc : c + size ≤ x.1 + x.2
  · exact hc
  · exact absurd (hm (x.1 + x.2) (by omega) (by omega)) (R_gap h hx)
theorem has_fits {l : List Sp} (h : R (-1) l) {size c : Int} (hs : 1 ≤ size) : hasB l (c, size) = true ↔ fitsAt l size c := by
  rw [has_iff h, valid_iff]
  simp only [hasX, fitsAt]
  constructor
  · rintro ⟨_, h1 | h1⟩
    · omega
    · exact h1
  · rintro ⟨x, hx, h1⟩
    have := R_elem h hx
    exact ⟨by omega, .inr ⟨x, hx, h1⟩⟩
theorem fits_valid {l : List Sp} (h : R (-1) l) {size c : Int} (_hs : 1 ≤ size) (hf : fitsAt l size c) : 0 ≤ c ∧ c + size ≤ 1099511627776 := by
  obtain ⟨x, hx, h1⟩ := hf
  have := R_elem h hx
  omega
theorem fitsBad_of {l : List Sp} {size align : Int} (h : fitsBad l size align = false) : R (-1) l ∧ (1 ≤ size ∧ size ≤ 1099511627776) ∧ (1 ≤ align ∧ align ≤ 1099511627776) := by
  simp only [fitsBad, Bool.or_eq_false_iff, decide_eq_false_iff_not, Bool.not_eq_false'] at h
  obtain ⟨⟨⟨⟨⟨_, h2⟩, h3⟩, h4⟩, h5⟩, h6⟩ := h
  exact ⟨(right_iff l).1 h2, by omega, by omega⟩
theorem fitB_of {l : List Sp} {size align from_ until_ : Int} (h : R (-1) l) (hs : 1 ≤ size ∧ size ≤ 1099511627776) (ha : 1 ≤ align ∧ align ≤ 1099511627776) :
    fitB l size align from_ until_ = if from_ ≤ 1099511627776 then fitP size align from_ until_ l else (0, false) := by
  unfold fitB
  by_cases hf : from_ ≤ 1099511627776
  · have hb : fitBad l size align from_ = false := by
      unfold fitBad
      rw [(right_iff l).2 h]
      simp only [Bool.or_eq_false_iff, decide_eq_false_iff_not, Bool.not_true, true_and]
      omega
    rw [hb, if_pos hf]
    simp only [Bool.false_eq_true, if_false]
    exact fitGo_eq hs ha hf l _ h
  · have hb : fitBad l size align from_ = true := by
      unfold fitBad
      rw [decide_eq_true (show (1099511627776 : Int) < from_ by omega), Bool.or_true]
    rw [hb, if_neg hf]
    rfl
/-- What is known of the place that is found. -/
theorem fit_spec {l : List Sp} {size align from_ until_ : Int} (h : R (-1) l) (hs : 1 ≤ size ∧ size ≤ 1099511627776) (ha : 1 ≤ align ∧ align ≤ 1099511627776) :
    (∃ c, fitB l size align from_ until_ = (c, true) ∧ fitsAt l size c ∧ from_ ≤ c ∧ c + size ≤ until_ ∧ c % align = 0) ∨ fitB l size align from_ until_ = (0, false) := by
  rw [fitB_of h hs ha]
  split
  · cases hq : (fitP size align from_ until_ l).2 with
    | true => exact .inl (fitP_some ha.1 l hq)
    | false => exact .inr (fitP_none _ _ _ _ l hq)
  · exact .inr rfl
theorem fit_least {l : List Sp} {size align from_ until_ c : Int} (h : R (-1) l) (hs : 1 ≤ size ∧ size ≤ 1099511627776) (ha : 1 ≤ align ∧ align ≤ 1099511627776) (hc : fitsAt l size c) (hf : from_ ≤ c) (hu : c + size ≤ until_) (hm : c % align = 0) :
    (fitB l size align from_ until_).2 = true ∧ (fitB l size align from_ until_).1 ≤ c := by
  have hv := fits_valid h hs.1 hc
  rw [fitB_of h hs ha, if_pos (by omega)]
  exact fitP_least hs.1 ha.1 l _ c h hc hf hu hm
theorem fits_true (l : List Sp) (size align from_ until_ n : Int) (h : R (-1) l) (hs : 1 ≤ size ∧ size ≤ 1099511627776) (ha : 1 ≤ align ∧ align ≤ 1099511627776) :
    fitsGo l (fitB l size align from_ until_) size align from_ until_ n = true := by
  have hC4 : (fitsC3 align n && fitsC4 l (fitB l size align from_ until_) (w64 (n * align)) size from_ until_) = false := by
    cases hq : (fitsC3 align n && fitsC4 l (fitB l size align from_ until_) (w64 (n * align)) size from_ until_) with
    | false => rfl
    | true =>
      exfalso
      rw [Bool.and_eq_true] at hq
      obtain ⟨h3, h4⟩ := hq
      have hd : (1099511627776 : Int).tdiv align = 1099511627776 / align := Int.tdiv_eq_ediv_of_nonneg (by omega)
      have hd1 : 0 ≤ (1099511627776 : Int) / align := Int.ediv_nonneg (by omega) (by omega)
      have hd2 := Int.mul_ediv_add_emod 1099511627776 align
      have hd3 := mod_bounds (X := 1099511627776) ha.1
      have hd4 : 1 * ((1099511627776 : Int) / align) ≤ align * (1099511627776 / align) := Int.mul_le_mul_of_nonneg_right ha.1 hd1
      unfold fitsC3 at h3
      rw [hd, w64_in (by omega) (by omega), Bool.and_eq_true, decide_eq_true_eq, decide_eq_true_eq] at h3
      have hb1 := Int.mul_le_mul_of_nonneg_left h3.2 (show 0 ≤ align by omega)
      have hb0 := Int.mul_nonneg (show 0 ≤ align by omega) h3.1
      have hcomm : n * align = align * n := Int.mul_comm _ _
      have hmod : (n * align) % align = 0 := by rw [hcomm]; exact Int.mul_emod_right _ _
      have hw : w64 (n * align) = n * align := w64_in (by omega) (by omega)
      rw [hw] at h4
      generalize n * align = b at *
      unfold fitsC4 fineB at h4
      simp only [Bool.and_eq_true, Bool.or_eq_true, Bool.not_eq_true', decide_eq_true_eq] at h4
      obtain ⟨⟨⟨⟨⟨f1, f2⟩, f3⟩, f4⟩, hor⟩, hh⟩ := h4
      rw [w64_in (by omega) (by omega)] at f2
      have hl := fit_least (until_ := until_) h hs ha ((has_fits h hs.1).1 hh) f1 (by omega) hmod
      rcases hor with hor | hor
      · rw [hl.1] at hor
        cases hor
      · omega
  unfold fitsGo
  rw [hC4]
  simp only [cond_false]
  rcases fit_spec (from_ := from_) (until_ := until_) h hs ha with ⟨c, hr, hfit, hf, hu, hm⟩ | hr
  · rw [hr]
    have hv := fits_valid h hs.1 hfit
    have e1 : fitsC1 (c, true) = false := rfl
    have e2 : fitsC2 l (c, true) size align from_ until_ = false := by
      unfold fitsC2
      rw [(has_fits h hs.1).2 hfit, Int.tmod_eq_emod_of_nonneg hv.1, hm, w64_in (by simp only; omega) (by simp only; omega)]
      simp only [bne_self_eq_false, Bool.false_or, Bool.not_true, Bool.or_false, Bool.true_and, Bool.or_eq_false_iff, decide_eq_false_iff_not]
      omega
    rw [e1, e2]
    simp only [cond_false, Bool.not_true]
    unfold fitsEnd
    have hvs : validB (c, size) = true := (valid_iff _).2 ⟨hv.1, by simp only; omega, hv.2⟩
    have hcut := cutB_spec h hvs
    rcases fit_spec (from_ := from_) (until_ := until_) hcut.1 hs ha with ⟨q, hr2, hfit2, hf2, hu2, hm2⟩ | hr2
    · rw [hr2, w64_in (by simp only; omega) (by simp only; omega)]
      simp only [Bool.not_true, Bool.false_or, Bool.true_and, decide_eq_true_eq]
      have hin : ∀ a, q ≤ a → a < q + size → mem l a ∧ ¬ ins a (c, size) := fun a h1 h2 => by
        obtain ⟨y, hy, k1, k2⟩ := hfit2
        exact (hcut.2.2 a).1 ⟨y, hy, by unfold ins; omega⟩
      have hl := fit_least (until_ := until_) h hs ha (fits_of_mem h hs.1 fun a h1 h2 => (hin a h1 h2).1) hf2 hu2 hm2
      rw [hr] at hl
      have hn := (hin q (Int.le_refl _) (by omega)).2
      unfold ins at hn
      simp only at hn hl
      omega
    · rw [hr2]
      rfl
  · rw [hr]
    rfl
theorem lawFits_true (l : List Sp) (size align from_ until_ n : Int) : lawFits l size align from_ until_ n = true := by
  unfold lawFits
  cases hb : fitsBad l size align with
  | true => rfl
  | false =>
    obtain ⟨h, hs, ha⟩ := fitsBad_of hb
    exact fits_true l size align from_ until_ n h hs ha
end Go.RoomLaw
