/- Room: sizes, the reference's lists, the places; the plain laws of Tells, Sets, Counts and Fits. No program in sight. -/
import Derived.Test.YtnnmeipmkfbpdaaPlain
namespace Go.RoomLaw

/-! ### Sizes -/
def T : List Sp → Int
  | [] => 0
  | x :: r => x.2 + T r
theorem T_append : ∀ l r : List Sp, T (l ++ r) = T l + T r
  | [], r => by simp [T]
  | x :: l, r => by simp only [List.cons_append, T, T_append l r]; omega
theorem T_bound : ∀ {l : List Sp} {lo : Int}, R lo l → -1 ≤ lo → lo ≤ 1099511627776 → 0 ≤ T l ∧ T l ≤ 1099511627776 - lo
  | [], lo, _, h1, h2 => by simp only [T]; omega
  | x :: r, lo, ⟨k1, k2, k3, k4, k5⟩, h1, h2 => by
    have := T_bound k5 (by omega) (by omega)
    simp only [T]
    omega
theorem sum_from : ∀ (l : List Sp) (lo n : Int), R lo l → -1 ≤ lo → lo ≤ 1099511627776 → 0 ≤ n → n ≤ 1099511627776 → n + T l ≤ 4398046511104 → l.foldl (fun n s => w64 (n + s.2)) n = n + T l
  | [], _, n, _, _, _, _, _, _ => by simp [T]
  | x :: r, lo, n, ⟨k1, k2, k3, k4, k5⟩, h1, h2, h3, h4, h5 => by
    have hb := T_bound k5 (by omega) (by omega)
    simp only [T] at h5
    rw [List.foldl_cons, w64_in (by omega) (by omega)]
    by_cases hn : n + x.2 ≤ 1099511627776
    · rw [sum_from r _ (n + x.2) k5 (by omega) (by omega) (by omega) hn (by omega)]
      simp only [T]
      omega
    · have : ∀ (l : List Sp) (lo m : Int), R lo l → -1 ≤ lo → lo ≤ 1099511627776 → 0 ≤ m → m + T l ≤ 4398046511104 → l.foldl (fun n s => w64 (n + s.2)) m = m + T l := by
        intro l
        induction l with
        | nil => intro _ m _ _ _ _ _; simp [T]
        | cons y q ih =>
          intro lo' m ⟨j1, j2, j3, j4, j5⟩ i1 i2 i3 i4
          have hb' := T_bound j5 (by omega) (by omega)
          simp only [T] at i4
          rw [List.foldl_cons, w64_in (by omega) (by omega), ih _ _ j5 (by omega) (by omega) (by omega) (by omega)]
          simp only [T]
          omega
      rw [this r _ _ k5 (by omega) (by omega) (by omega) (by omega)]
      simp only [T]
      omega
theorem tot_of {l : List Sp} (h : R (-1) l) : totB l = T l := by
  have hb := T_bound h (by omega) (by omega)
  unfold totB
  rw [if_pos ((right_iff l).2 h), sumW, sum_from l _ 0 h (by omega) (by omega) (by omega) (by omega) (by omega)]
  omega
def ov (s x : Sp) : Int := max 0 (min (x.1 + x.2) (s.1 + s.2) - max x.1 s.1)
def OV (s : Sp) : List Sp → Int
  | [] => 0
  | x :: r => ov s x + OV s r
theorem T_keep {b c : Int} (h1 : 0 ≤ b) (h2 : c ≤ 1099511627776) : T (keepS b c) = max 0 (c - b) := by
  unfold keepS
  split
  · rw [w64_in (by omega) (by omega)]
    simp only [T]
    omega
  · simp only [T]
    omega
theorem T_cut : ∀ (l : List Sp) (s : Sp) (lo : Int), R lo l → Ok s → T (cutGo s l) = T l - OV s l
  | [], s, _, _, _ => by simp [cutGo, T, OV]
  | x :: r, s, lo, ⟨h1, h2, h3, h4, h5⟩, hs => by
    have hl := hs.lo; have hp := hs.pos; have hh := hs.hi
    have ih := T_cut r s _ h5 hs
    show T (cutOne s x ++ cutGo s r) = _
    rw [cutOne_of ⟨h2, h3, h4⟩ hs, T_append, T_append, T_keep h2 (by omega), T_keep (by omega) h4, ih]
    simp only [T, OV, ov]
    omega
theorem OV_cong : ∀ (l : List Sp) (s s' : Sp) (lo : Int), R lo l → s.1 ≤ lo → s'.1 ≤ lo → max lo (s.1 + s.2) = max lo (s'.1 + s'.2) → OV s l = OV s' l
  | [], _, _, _, _, _, _, _ => rfl
  | x :: r, s, s', lo, ⟨h1, h2, h3, h4, h5⟩, k1, k2, k3 => by
    have ih := OV_cong r s s' _ h5 (by omega) (by omega) (by omega)
    simp only [OV, ov, ih]
    omega
theorem OV_zero : ∀ (l : List Sp) (s : Sp) (lo : Int), R lo l → s.1 + s.2 ≤ lo → OV s l = 0
  | [], _, _, _, _ => rfl
  | x :: r, s, lo, ⟨h1, h2, h3, h4, h5⟩, k => by
    have ih := OV_zero r s _ h5 (by omega)
    simp only [OV, ov, ih]
    omega
theorem T_add : ∀ (l : List Sp) (s : Sp) (lo : Int), R lo l → Ok s → T (addGo l s) = T l + s.2 - OV s l
  | [], s, _, _, _ => by simp [addGo, T, OV]
  | x :: r, s, lo, ⟨h1, h2, h3, h4, h5⟩, hs => by
    have hx : Ok x := ⟨h2, h3, h4⟩
    have hl := hs.lo; have hp := hs.pos; have hh := hs.hi
    unfold addGo
    rw [hx.end, hs.end]
    split
    · have ih := T_add r s _ h5 hs
      simp only [T, OV, ov, ih]
      omega
    · split
      · have h0 := OV_zero r s _ h5 (by omega)
        simp only [T, OV, ov, h0]
        omega
      · have ih := T_add r (mergeS x s) _ h5 (mergeS_ok hx hs)
        have hc := OV_cong r (mergeS x s) s _ h5 (by rw [mergeS_of hx hs]; simp only; omega) (by omega) (by rw [mergeS_of hx hs]; simp only; omega)
        rw [ih, hc, mergeS_of hx hs]
        simp only [T, OV, ov]
        omega
/-! ### Has, Meets -/
def hasX (s : Sp) (l : List Sp) : Prop := ∃ x ∈ l, x.1 ≤ s.1 ∧ s.1 + s.2 ≤ x.1 + x.2
def meetsX (s : Sp) (l : List Sp) : Prop := ∃ x ∈ l, max x.1 s.1 < min (x.1 + x.2) (s.1 + s.2)
theorem hasX_cons {s x : Sp} {r : List Sp} : hasX s (x :: r) ↔ (x.1 ≤ s.1 ∧ s.1 + s.2 ≤ x.1 + x.2) ∨ hasX s r := by simp [hasX]
theorem meetsX_cons {s x : Sp} {r : List Sp} : meetsX s (x :: r) ↔ (max x.1 s.1 < min (x.1 + x.2) (s.1 + s.2)) ∨ meetsX s r := by simp [meetsX]
theorem hasX_none {l : List Sp} {s : Sp} {lo : Int} (h : R lo l) (hs : s.1 ≤ lo) : ¬ hasX s l := by
  rintro ⟨x, hx, h1, _⟩
  have := R_elem h hx
  omega
theorem OV_full : ∀ (l : List Sp) (s : Sp) (lo : Int), R lo l → Ok s → 0 ≤ OV s l ∧ OV s l ≤ s.2 ∧ (OV s l = s.2 ↔ hasX s l)
  | [], s, _, _, hs => by
    have hp := hs.pos
    simp only [OV, hasX, List.not_mem_nil, false_and, exists_false, iff_false]
    omega
  | x :: r, s, lo, ⟨h1, h2, h3, h4, h5⟩, hs => by
    have hl := hs.lo; have hp := hs.pos; have hh := hs.hi
    rw [hasX_cons]
    simp only [OV]
    by_cases hA : s.1 + s.2 ≤ x.1 + x.2
    · have h0 := OV_zero r s _ h5 hA
      have hn : ¬ hasX s r := hasX_none h5 (by omega)
      simp only [h0, hn, or_false, ov]
      omega
    · by_cases hB : x.1 + x.2 ≤ s.1
      · obtain ⟨i1, i2, i3⟩ := OV_full r s _ h5 hs
        have ho : ov s x = 0 := by unfold ov; omega
        rw [ho, Int.zero_add, i3]
        exact ⟨i1, i2, ⟨.inr, fun h => h.elim (fun h => by omega) id⟩⟩
      · have hs' : Ok (x.1 + x.2, s.1 + s.2 - (x.1 + x.2)) := ⟨by simp only; omega, by simp only; omega, by simp only; omega⟩
        obtain ⟨i1, i2, i3⟩ := OV_full r _ _ h5 hs'
        have hn' : ¬ hasX (x.1 + x.2, s.1 + s.2 - (x.1 + x.2)) r := hasX_none h5 (Int.le_refl _)
        have hn : ¬ hasX s r := hasX_none h5 (by omega)
        have hc := OV_cong r s (x.1 + x.2, s.1 + s.2 - (x.1 + x.2)) _ h5 (by omega) (Int.le_refl _) (by simp only; omega)
        have hne : OV (x.1 + x.2, s.1 + s.2 - (x.1 + x.2)) r ≠ s.1 + s.2 - (x.1 + x.2) := fun e => hn' (i3.1 e)
        simp only [hn, or_false, hc, ov] at *
        omega
theorem OV_meets : ∀ (l : List Sp) (s : Sp) (lo : Int), R lo l → Ok s → (0 < OV s l ↔ meetsX s l)
  | [], s, _, _, _ => by simp [OV, meetsX]
  | x :: r, s, lo, ⟨h1, h2, h3, h4, h5⟩, hs => by
    have ih := OV_meets r s _ h5 hs
    have h0 := (OV_full r s _ h5 hs).1
    rw [meetsX_cons, ← ih]
    simp only [OV, ov]
    omega
theorem any_has {l : List Sp} {s : Sp} (h : R (-1) l) (hs : validB s = true) : l.any (hasP s) = true ↔ hasX s l := by
  have hv := (valid_iff s).1 hs
  rw [List.any_eq_true]
  unfold hasX hasP
  constructor
  · rintro ⟨x, hx, hp⟩
    have he := R_elem h hx
    rw [endS_of hv.1 hv.2.1 hv.2.2, endS_of he.2.1 (by omega) he.2.2.2, Bool.and_eq_true, decide_eq_true_eq, decide_eq_true_eq] at hp
    exact ⟨x, hx, hp⟩
  · rintro ⟨x, hx, hp⟩
    have he := R_elem h hx
    refine ⟨x, hx, ?_⟩
    rw [endS_of hv.1 hv.2.1 hv.2.2, endS_of he.2.1 (by omega) he.2.2.2, Bool.and_eq_true, decide_eq_true_eq, decide_eq_true_eq]
    exact hp
theorem any_meets {l : List Sp} {s : Sp} (h : R (-1) l) (hs : validB s = true) : l.any (meetsP s) = true ↔ meetsX s l := by
  have hv := (valid_iff s).1 hs
  rw [List.any_eq_true]
  unfold meetsX meetsP
  constructor
  · rintro ⟨x, hx, hp⟩
    have he := R_elem h hx
    rw [endS_of hv.1 hv.2.1 hv.2.2, endS_of he.2.1 (by omega) he.2.2.2, decide_eq_true_eq] at hp
    exact ⟨x, hx, hp⟩
  · rintro ⟨x, hx, hp⟩
    have he := R_elem h hx
    refine ⟨x, hx, ?_⟩
    rw [endS_of hv.1 hv.2.1 hv.2.2, endS_of he.2.1 (by omega) he.2.2.2, decide_eq_true_eq]
    exact hp
theorem has_iff {l : List Sp} {s : Sp} (h : R (-1) l) : hasB l s = true ↔ validB s = true ∧ (s.2 = 0 ∨ hasX s l) := by
  unfold hasB
  rw [(right_iff l).2 h]
  cases hs : validB s with
  | false => simp
  | true => simp [any_has h hs]
theorem meets_iff {l : List Sp} {s : Sp} (h : R (-1) l) : meetsB l s = true ↔ validB s = true ∧ meetsX s l := by
  unfold meetsB
  rw [(right_iff l).2 h]
  cases hs : validB s with
  | false => simp
  | true => simp [any_meets h hs]
theorem bool_eq {a b : Bool} (h : a = true ↔ b = true) : a = b := by cases a <;> cases b <;> simp_all
theorem addB_T {l : List Sp} {s : Sp} (h : R (-1) l) (hs : Ok s) (hv : validB s = true) : totB (addB l s) = T l + s.2 - OV s l := by
  rw [tot_of (addB_R h), addB, (right_iff l).2 h, hv]
  have h0 : s.2 ≠ 0 := by have := hs.pos; omega
  simp only [Bool.not_true, Bool.or_self, beq_eq_false_iff_ne.2 h0, Bool.false_eq_true, if_false]
  exact T_add l s _ h hs
theorem cutB_T {l : List Sp} {s : Sp} (h : R (-1) l) (hs : Ok s) (hv : validB s = true) : totB (cutB l s) = T l - OV s l := by
  rw [tot_of (cutB_R h).1, cutB, (right_iff l).2 h, hv]
  have h0 : s.2 ≠ 0 := by have := hs.pos; omega
  simp only [Bool.not_true, Bool.or_self, beq_eq_false_iff_ne.2 h0, Bool.false_eq_true, if_false]
  exact T_cut l s _ h hs
theorem addB_empty {l : List Sp} {s : Sp} (h : s.2 = 0) : addB l s = l := by simp [addB, h]
theorem cutB_empty {l : List Sp} {s : Sp} (h : s.2 = 0) : cutB l s = l := by simp [cutB, h]
theorem has_counts {l : List Sp} {s : Sp} (h : R (-1) l) (hs : validB s = true) : hasB l s = (totB (addB l s) == totB l) := by
  refine bool_eq ?_
  rw [has_iff h, beq_iff_eq]
  by_cases h0 : s.2 = 0
  · simp [hs, h0, addB_empty h0]
  · have ho := Ok_of hs h0
    have hf := OV_full l s _ h ho
    rw [addB_T h ho hs, tot_of h, ← hf.2.2]
    simp only [hs, h0, true_and, false_or]
    omega
theorem meets_counts {l : List Sp} {s : Sp} (h : R (-1) l) (hs : validB s = true) : meetsB l s = decide (totB (cutB l s) < totB l) := by
  refine bool_eq ?_
  rw [meets_iff h, decide_eq_true_eq]
  by_cases h0 : s.2 = 0
  · rw [cutB_empty h0]
    simp only [hs, true_and]
    constructor
    · rintro ⟨x, _, hx⟩
      omega
    · intro hx
      omega
  · have ho := Ok_of hs h0
    rw [cutB_T h ho hs, tot_of h, ← OV_meets l s _ h ho]
    simp only [hs, true_and]
    omega
theorem countsBad_of {l : List Sp} {s : Sp} (h : countsBad l s = false) : R (-1) l ∧ validB s = true := by
  simp only [countsBad, Bool.or_eq_false_iff, decide_eq_false_iff_not, Bool.not_eq_false'] at h
  obtain ⟨⟨⟨⟨⟨_, h1⟩, h2⟩, h3⟩, h4⟩, h5⟩ := h
  rw [w64_in (by omega) (by omega)] at h5
  exact ⟨(right_iff l).1 h1, (valid_iff s).2 ⟨by omega, by omega, by omega⟩⟩
theorem lawCounts_true (l : List Sp) (s : Sp) : lawCounts l s = true := by
  unfold lawCounts
  cases hb : countsBad l s with
  | true => rfl
  | false =>
    obtain ⟨h, hv⟩ := countsBad_of hb
    show countsGo l s = true
    unfold countsGo
    rw [has_counts h hv, meets_counts h hv]
    simp only [beq_self_eq_true, Bool.and_true, Bool.true_and, beq_iff_eq]
    by_cases h0 : s.2 = 0
    · have hb := T_bound h (by omega) (by omega)
      rw [addB_empty h0, cutB_empty h0, tot_of h, w64_in (n := T l - T l) (by omega) (by omega), w64_in (n := T l - T l + T l) (by omega) (by omega), w64_in (by omega) (by omega)]
      omega
    · have ho := Ok_of hv h0
      have hf := OV_full l s _ h ho
      have hb := T_bound h (by omega) (by omega)
      have hh := ho.hi; have hl := ho.lo
      rw [addB_T h ho hv, cutB_T h ho hv, tot_of h, w64_in (n := T l + s.2 - OV s l - T l) (by omega) (by omega), w64_in (n := T l + s.2 - OV s l - T l + T l) (by omega) (by omega), w64_in (by omega) (by omega)]
      omega
/-! ### One address -/
theorem has_one {l : List Sp} (h : R (-1) l) {a : Int} (h0 : 0 ≤ a) (h1 : a < 1099511627776) : hasB l (a, 1) = true ↔ mem l a := by
  rw [has_iff h, valid_iff]
  simp only [hasX, mem, ins]
  constructor
  · rintro ⟨_, h2 | ⟨x, hx, h2⟩⟩
    · omega
    · exact ⟨x, hx, by omega⟩
  · rintro ⟨x, hx, h2⟩
    exact ⟨by omega, .inr ⟨x, hx, by omega⟩⟩
theorem meets_one {l : List Sp} (h : R (-1) l) {a : Int} (h0 : 0 ≤ a) (h1 : a < 1099511627776) : meetsB l (a, 1) = true ↔ mem l a := by
  rw [meets_iff h, valid_iff]
  simp only [meetsX, mem, ins]
  constructor
  · rintro ⟨_, x, hx, h2⟩
    exact ⟨x, hx, by omega⟩
  · rintro ⟨x, hx, h2⟩
    exact ⟨by omega, x, hx, by omega⟩
theorem also_iff {s : Sp} (h : validB s = true) (a : Int) : alsoB s a = true ↔ ins a s := by
  have hv := (valid_iff s).1 h
  unfold alsoB ins
  rw [w64_in (by omega) (by omega), Bool.and_eq_true, decide_eq_true_eq, decide_eq_true_eq]
theorem lawSets_true (l : List Sp) (s : Sp) (a : Int) : lawSets l s a = true := by
  unfold lawSets
  cases hb : setsBad l s a with
  | true => rfl
  | false =>
    simp only [setsBad, Bool.or_eq_false_iff, decide_eq_false_iff_not] at hb
    obtain ⟨⟨hc, h0⟩, h1⟩ := hb
    obtain ⟨h, hv⟩ := countsBad_of hc
    have ha := addB_spec h hv
    have hk := cutB_spec h hv
    have e1 : hasB (addB l s) (a, 1) = (hasB l (a, 1) || alsoB s a) := bool_eq (by
      rw [has_one ha.1 (by omega) (by omega), ha.2 a, Bool.or_eq_true, has_one h (by omega) (by omega), also_iff hv])
    have e2 : hasB (cutB l s) (a, 1) = (hasB l (a, 1) && !alsoB s a) := bool_eq (by
      rw [has_one hk.1 (by omega) (by omega), hk.2.2 a, Bool.and_eq_true, has_one h (by omega) (by omega), ← also_iff hv]
      cases alsoB s a <;> simp)
    have e3 : meetsB l (a, 1) = hasB l (a, 1) := bool_eq (by rw [meets_one h (by omega) (by omega), has_one h (by omega) (by omega)])
    show setsGo l s a = true
    unfold setsGo
    rw [(right_iff _).2 ha.1, (right_iff _).2 hk.1, e1, e2, e3]
    simp
end Go.RoomLaw
