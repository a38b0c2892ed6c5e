/- Room: right lists and their addresses; the plain laws. No program in sight. -/
import Derived.Test.YtnnmeipmkfbpdaaLaws
namespace Go.RoomLaw

theorem w64_in {n : Int} (h1 : -9223372036854775808 ≤ n) (h2 : n ≤ 9223372036854775807) : w64 n = n := by
  unfold w64
  exact IntWalk.i64_in _ (by omega)
theorem valid_iff (s : Sp) : validB s = true ↔ 0 ≤ s.1 ∧ 0 ≤ s.2 ∧ s.1 + s.2 ≤ 1099511627776 := by
  unfold validB M
  simp only [Bool.and_eq_true, decide_eq_true_eq]
  constructor
  · rintro ⟨⟨⟨h1, h2⟩, h3⟩, h4⟩
    rw [w64_in (by omega) (by omega)] at h4
    omega
  · rintro ⟨h1, h2, h3⟩
    rw [w64_in (by omega) (by omega)]
    omega
/-- Right, above lo. -/
def R : Int → List Sp → Prop
  | _, [] => True
  | lo, x :: r => lo < x.1 ∧ 0 ≤ x.1 ∧ 0 < x.2 ∧ x.1 + x.2 ≤ 1099511627776 ∧ R (x.1 + x.2) r
theorem R_mono : ∀ {l : List Sp} {lo lo' : Int}, lo ≤ lo' → R lo' l → R lo l
  | [], _, _, _, _ => trivial
  | _ :: _, _, _, h, ⟨h1, h2⟩ => ⟨by omega, h2⟩
theorem endS_of {s : Sp} (h0 : 0 ≤ s.1) (h1 : 0 ≤ s.2) (h2 : s.1 + s.2 ≤ 1099511627776) : endS s = s.1 + s.2 := by
  unfold endS
  exact w64_in (by omega) (by omega)
theorem R_good : ∀ (l : List Sp) (lo : Int), R lo l ↔ ∀ i, i < l.length → (validB (gt l i) = true ∧ (gt l i).2 ≠ 0 ∧ (i = 0 → lo < (gt l i).1) ∧ (0 < i → endS (gt l (i - 1)) < (gt l i).1))
  | [], lo => by simp [R]
  | x :: r, lo => by
    have ih := R_good r (x.1 + x.2)
    simp only [R, ih]
    constructor
    · rintro ⟨h1, h2, h3, h4, h5⟩ i hi
      cases i with
      | zero => exact ⟨(valid_iff x).2 ⟨h2, by omega, h4⟩, by simp only [gt, List.getD_cons_zero]; omega, fun _ => h1, fun h => absurd h (Nat.lt_irrefl 0)⟩
      | succ i =>
        obtain ⟨k1, k2, k3, k4⟩ := h5 i (by simpa using hi)
        refine ⟨k1, k2, fun h => absurd h (Nat.succ_ne_zero i), fun _ => ?_⟩
        cases i with
        | zero =>
          show endS x < (gt r 0).1
          rw [endS_of h2 (by omega) h4]
          exact k3 rfl
        | succ i => exact k4 (Nat.succ_pos i)
    · intro h
      obtain ⟨k1, k2, k3, k4⟩ := h 0 (Nat.succ_pos _)
      change validB x = true at k1
      change x.2 ≠ 0 at k2
      have kv := (valid_iff x).1 k1
      refine ⟨k3 rfl, kv.1, by omega, kv.2.2, fun i hi => ?_⟩
      obtain ⟨j1, j2, _, j4⟩ := h (i + 1) (by simpa using hi)
      refine ⟨j1, j2, fun h0 => ?_, fun h0 => ?_⟩
      · subst h0
        have := j4 (Nat.succ_pos 0)
        change endS x < (gt r 0).1 at this
        rwa [endS_of kv.1 kv.2.1 kv.2.2] at this
      · have := j4 (Nat.succ_pos i)
        cases i with
        | zero => omega
        | succ i => exact this
theorem badAt_iff (l : List Sp) (i : Nat) : badAt l i = false ↔ (validB (gt l i) = true ∧ (gt l i).2 ≠ 0 ∧ (0 < i → endS (gt l (i - 1)) < (gt l i).1)) := by
  unfold badAt
  simp only [Bool.or_eq_false_iff, Bool.not_eq_false', beq_eq_false_iff_ne, Bool.and_eq_false_iff, decide_eq_false_iff_not]
  constructor
  · rintro ⟨⟨h1, h2⟩, h3⟩
    refine ⟨h1, h2, fun h => ?_⟩
    rcases h3 with h3 | h3
    · omega
    · omega
  · rintro ⟨h1, h2, h3⟩
    refine ⟨⟨h1, h2⟩, ?_⟩
    by_cases h : 0 < i
    · have := h3 h
      right
      omega
    · left
      omega
theorem right_iff (l : List Sp) : rightB l = true ↔ R (-1) l := by
  rw [R_good]
  unfold rightB
  simp only [List.all_eq_true, List.mem_range, Bool.not_eq_true', badAt_iff]
  constructor
  · intro h i hi
    obtain ⟨h1, h2, h3⟩ := h i hi
    exact ⟨h1, h2, fun _ => by have := ((valid_iff _).1 h1).1; omega, h3⟩
  · intro h i hi
    obtain ⟨h1, h2, _, h3⟩ := h i hi
    exact ⟨h1, h2, h3⟩
theorem right_false {l : List Sp} (h : ¬ R (-1) l) : rightB l = false := by
  cases hr : rightB l with
  | true => exact absurd ((right_iff l).1 hr) h
  | false => rfl

/-! ### Addresses -/
def ins (a : Int) (s : Sp) : Prop := s.1 ≤ a ∧ a < s.1 + s.2
def mem (l : List Sp) (a : Int) : Prop := ∃ x ∈ l, ins a x
theorem mem_cons {x : Sp} {r : List Sp} {a : Int} : mem (x :: r) a ↔ ins a x ∨ mem r a := by
  simp [mem]
theorem mem_nil {a : Int} : mem [] a ↔ False := by simp [mem]
theorem mem_append {l r : List Sp} {a : Int} : mem (l ++ r) a ↔ mem l a ∨ mem r a := by
  unfold mem
  constructor
  · rintro ⟨x, hx, h⟩
    rcases List.mem_append.1 hx with hx | hx
    · exact .inl ⟨x, hx, h⟩
    · exact .inr ⟨x, hx, h⟩
  · rintro (⟨x, hx, h⟩ | ⟨x, hx, h⟩)
    · exact ⟨x, List.mem_append.2 (.inl hx), h⟩
    · exact ⟨x, List.mem_append.2 (.inr hx), h⟩
theorem R_mem : ∀ {l : List Sp} {lo : Int}, R lo l → ∀ {a}, mem l a → lo < a ∧ 0 ≤ a ∧ a < 1099511627776
  | [], _, _, _, h => (mem_nil.1 h).elim
  | x :: r, lo, ⟨h1, h2, h3, h4, h5⟩, a, h => by
    rcases mem_cons.1 h with h | h
    · unfold ins at h; omega
    · have := R_mem h5 h; omega
theorem R_elem : ∀ {l : List Sp} {lo : Int}, R lo l → ∀ {x}, x ∈ l → lo < x.1 ∧ 0 ≤ x.1 ∧ 0 < x.2 ∧ x.1 + x.2 ≤ 1099511627776
  | [], _, _, _, h => by cases h
  | y :: r, lo, ⟨h1, h2, h3, h4, h5⟩, x, h => by
    rcases List.mem_cons.1 h with rfl | h
    · exact ⟨h1, h2, h3, h4⟩
    · have := R_elem h5 h; omega
/-- A right list is known by its addresses. -/
theorem R_unique : ∀ {l r : List Sp} {lo lo' : Int}, R lo l → R lo' r → (∀ a, mem l a ↔ mem r a) → l = r
  | [], [], _, _, _, _, _ => rfl
  | [], y :: r, _, _, _, ⟨_, _, h3, _, _⟩, h => by
    have := (h y.1).2 (mem_cons.2 (.inl (by unfold ins; omega)))
    exact (mem_nil.1 this).elim
  | x :: l, [], _, _, ⟨_, _, h3, _, _⟩, _, h => by
    have := (h x.1).1 (mem_cons.2 (.inl (by unfold ins; omega)))
    exact (mem_nil.1 this).elim
  | x :: l, y :: r, lo, lo', ⟨h1, h2, h3, h4, h5⟩, ⟨k1, k2, k3, k4, k5⟩, h => by
    have e1 : x.1 = y.1 := by
      have a1 := (h x.1).1 (mem_cons.2 (.inl (by unfold ins; omega)))
      have a2 := (h y.1).2 (mem_cons.2 (.inl (by unfold ins; omega)))
      rcases mem_cons.1 a1 with a1 | a1 <;> rcases mem_cons.1 a2 with a2 | a2
      · unfold ins at a1 a2; omega
      · have := R_mem h5 a2; unfold ins at a1; omega
      · have := R_mem k5 a1; unfold ins at a2; omega
      · have := R_mem h5 a2; have := R_mem k5 a1; omega
    have e2 : x.1 + x.2 = y.1 + y.2 := by
      rcases Int.lt_trichotomy (x.1 + x.2) (y.1 + y.2) with hl | hl | hl
      · have := (h (x.1 + x.2)).2 (mem_cons.2 (.inl (by unfold ins; omega)))
        rcases mem_cons.1 this with a | a
        · unfold ins at a; omega
        · have := R_mem h5 a; omega
      · exact hl
      · have := (h (y.1 + y.2)).1 (mem_cons.2 (.inl (by unfold ins; omega)))
        rcases mem_cons.1 this with a | a
        · unfold ins at a; omega
        · have := R_mem k5 a; omega
    have e3 : l = r := by
      refine R_unique h5 k5 fun a => ?_
      constructor
      · intro ha
        have := R_mem h5 ha
        rcases mem_cons.1 ((h a).1 (mem_cons.2 (.inr ha))) with b | b
        · unfold ins at b; omega
        · exact b
      · intro ha
        have := R_mem k5 ha
        rcases mem_cons.1 ((h a).2 (mem_cons.2 (.inr ha))) with b | b
        · unfold ins at b; omega
        · exact b
    rw [e3, Prod.ext e1 (by omega : x.2 = y.2)]

/-! ### Adding -/
/-- A span that is no bad one and not empty. -/
structure Ok (s : Sp) : Prop where
  lo : 0 ≤ s.1
  pos : 0 < s.2
  hi : s.1 + s.2 ≤ 1099511627776
theorem Ok.end {s : Sp} (h : Ok s) : endS s = s.1 + s.2 := endS_of h.lo (by have := h.pos; omega) h.hi
theorem mergeS_of {x s : Sp} (hx : Ok x) (hs : Ok s) : mergeS x s = (min x.1 s.1, max (x.1 + x.2) (s.1 + s.2) - min x.1 s.1) := by
  have := hx.lo; have := hx.pos; have := hx.hi; have := hs.lo; have := hs.pos; have := hs.hi
  unfold mergeS
  rw [hx.end, hs.end, w64_in (by omega) (by omega)]
theorem mergeS_ok {x s : Sp} (hx : Ok x) (hs : Ok s) : Ok (mergeS x s) := by
  have := hx.lo; have := hx.pos; have := hx.hi; have := hs.lo; have := hs.pos; have := hs.hi
  rw [mergeS_of hx hs]
  exact ⟨by simp only; omega, by simp only; omega, by simp only; omega⟩
theorem addGo_R : ∀ (l : List Sp) (s : Sp) (lo : Int), R lo l → Ok s → lo < s.1 → R lo (addGo l s)
  | [], s, lo, _, hs, h => ⟨h, hs.lo, hs.pos, hs.hi, trivial⟩
  | x :: r, s, lo, ⟨h1, h2, h3, h4, h5⟩, hs, h => by
    have hx : Ok x := ⟨h2, h3, h4⟩
    have hl := hs.lo; have hp := hs.pos; have hh := hs.hi
    unfold addGo
    rw [hx.end, hs.end]
    split
    · exact ⟨h1, h2, h3, h4, addGo_R r s _ h5 hs (by assumption)⟩
    · split
      · exact ⟨h, hl, hp, hh, by assumption, h2, h3, h4, h5⟩
      · have hm := mergeS_of hx hs
        refine addGo_R r _ lo (R_mono (by omega) h5) (mergeS_ok hx hs) ?_
        rw [hm]
        simp only
        omega
theorem addGo_mem : ∀ (l : List Sp) (s : Sp) (lo : Int), R lo l → Ok s → ∀ a, mem (addGo l s) a ↔ mem l a ∨ ins a s
  | [], s, lo, _, hs, a => by simp [addGo, mem]
  | x :: r, s, lo, ⟨h1, h2, h3, h4, h5⟩, hs, a => by
    have hx : Ok x := ⟨h2, h3, h4⟩
    have hl := hs.lo; have hp := hs.pos; have hh := hs.hi
    unfold addGo
    rw [hx.end, hs.end]
    split
    · rw [mem_cons, mem_cons, addGo_mem r s _ h5 hs a, or_assoc]
    · split
      · rw [mem_cons, or_comm]
      · rw [addGo_mem r _ _ h5 (mergeS_ok hx hs) a, mem_cons, mergeS_of hx hs]
        have : ins a (min x.1 s.1, max (x.1 + x.2) (s.1 + s.2) - min x.1 s.1) ↔ ins a x ∨ ins a s := by
          unfold ins
          simp only
          omega
        rw [this]
        constructor
        · rintro (h | h | h)
          · exact .inl (.inr h)
          · exact .inl (.inl h)
          · exact .inr h
        · rintro ((h | h) | h)
          · exact .inr (.inl h)
          · exact .inl h
          · exact .inr (.inr h)

/-! ### Cutting -/
theorem keepS_mem {b c a : Int} (h1 : 0 ≤ b) (h2 : c ≤ 1099511627776) : mem (keepS b c) a ↔ b ≤ a ∧ a < c := by
  unfold keepS
  split
  · rw [w64_in (by omega) (by omega)]
    simp only [mem, List.mem_singleton, exists_eq_left, ins]
    omega
  · simp only [mem_nil, false_iff]
    omega
theorem keepS_R {b c lo : Int} {r : List Sp} (h1 : 0 ≤ b) (h2 : c ≤ 1099511627776) (hlo : lo < b) (hr : R (max lo c) r) (hr0 : R lo r) : R lo (keepS b c ++ r) := by
  unfold keepS
  split
  · rw [w64_in (by omega) (by omega)]
    exact ⟨hlo, h1, by simp only; omega, by simp only; omega, R_mono (by simp only; omega) hr⟩
  · exact hr0
theorem cutOne_of {s x : Sp} (hx : Ok x) (hs : Ok s) : cutOne s x = keepS x.1 (min (x.1 + x.2) s.1) ++ keepS (max x.1 (s.1 + s.2)) (x.1 + x.2) := by
  unfold cutOne
  rw [hx.end, hs.end]
theorem cutGo_R : ∀ (l : List Sp) (s : Sp) (lo : Int), R lo l → Ok s → R lo (cutGo s l)
  | [], s, lo, _, _ => trivial
  | x :: r, s, lo, ⟨h1, h2, h3, h4, h5⟩, hs => by
    have hx : Ok x := ⟨h2, h3, h4⟩
    have hl := hs.lo; have hp := hs.pos; have hh := hs.hi
    have ih := cutGo_R r s _ h5 hs
    show R lo (cutOne s x ++ cutGo s r)
    rw [cutOne_of hx hs, List.append_assoc]
    have key : ∀ lo', lo' < max x.1 (s.1 + s.2) → lo' ≤ x.1 + x.2 → R lo' (keepS (max x.1 (s.1 + s.2)) (x.1 + x.2) ++ cutGo s r) := fun lo' k1 k2 =>
      keepS_R (by omega) h4 k1 (R_mono (by omega) ih) (R_mono k2 ih)
    exact keepS_R h2 (by omega) h1 (key _ (by omega) (by omega)) (key _ (by omega) (by omega))
theorem cutGo_mem : ∀ (l : List Sp) (s : Sp) (lo : Int), R lo l → Ok s → ∀ a, mem (cutGo s l) a ↔ mem l a ∧ ¬ ins a s
  | [], s, lo, _, _, a => by simp [cutGo, mem]
  | x :: r, s, lo, ⟨h1, h2, h3, h4, h5⟩, hs, a => by
    have hx : Ok x := ⟨h2, h3, h4⟩
    have hl := hs.lo; have hp := hs.pos; have hh := hs.hi
    show mem (cutOne s x ++ cutGo s r) a ↔ _
    rw [cutOne_of hx hs, mem_append, mem_append, keepS_mem h2 (by omega), keepS_mem (by omega) h4, cutGo_mem r s _ h5 hs a, mem_cons]
    unfold ins
    constructor
    · rintro ((h | h) | h)
      · exact ⟨.inl (by omega), by omega⟩
      · exact ⟨.inl (by omega), by omega⟩
      · exact ⟨.inr h.1, h.2⟩
    · rintro ⟨h | h, hn⟩
      · left
        omega
      · exact .inr ⟨h, hn⟩
theorem cutGo_len : ∀ (l : List Sp) (s : Sp) (lo : Int), R lo l → Ok s → (cutGo s l).length ≤ l.length + 1 ∧ (s.1 ≤ lo → (cutGo s l).length ≤ l.length)
  | [], s, lo, _, _ => by simp [cutGo]
  | x :: r, s, lo, ⟨h1, h2, h3, h4, h5⟩, hs => by
    have hx : Ok x := ⟨h2, h3, h4⟩
    have hl := hs.lo; have hp := hs.pos; have hh := hs.hi
    obtain ⟨i1, i2⟩ := cutGo_len r s _ h5 hs
    have k1 := keepS_length x.1 (min (x.1 + x.2) s.1)
    have k2 := keepS_length (max x.1 (s.1 + s.2)) (x.1 + x.2)
    show (cutOne s x ++ cutGo s r).length ≤ _ ∧ (_ → (cutOne s x ++ cutGo s r).length ≤ _)
    rw [cutOne_of hx hs]
    simp only [List.length_append, List.length_cons]
    by_cases hq : s.1 < x.1 + x.2
    · have := i2 (by omega)
      refine ⟨by omega, fun h => ?_⟩
      have : (keepS x.1 (min (x.1 + x.2) s.1)).length = 0 := by
        unfold keepS
        rw [if_neg (by omega)]
        rfl
      omega
    · have : (keepS (max x.1 (s.1 + s.2)) (x.1 + x.2)).length = 0 := by
        unfold keepS
        rw [if_neg (by omega)]
        rfl
      exact ⟨by omega, fun h => by omega⟩

/-! ### The functions -/
theorem Ok_of {s : Sp} (h : validB s = true) (h0 : s.2 ≠ 0) : Ok s := by
  have := (valid_iff s).1 h
  exact ⟨this.1, by omega, this.2.2⟩
theorem ins_none {s : Sp} {a : Int} (h0 : s.2 = 0) : ¬ ins a s := by unfold ins; omega
theorem addB_spec {l : List Sp} {s : Sp} (hl : R (-1) l) (hs : validB s = true) : R (-1) (addB l s) ∧ ∀ a, mem (addB l s) a ↔ mem l a ∨ ins a s := by
  unfold addB
  rw [(right_iff l).2 hl, hs]
  by_cases h0 : s.2 = 0
  · simp only [h0, Bool.not_true, Bool.or_self, Bool.false_or, beq_self_eq_true, if_true]
    exact ⟨hl, fun a => by simp [ins_none h0]⟩
  · have ho := Ok_of hs h0
    simp only [Bool.not_true, Bool.or_self, beq_eq_false_iff_ne.2 h0, Bool.false_eq_true, if_false]
    exact ⟨addGo_R l s _ hl ho (by have := ho.lo; omega), addGo_mem l s _ hl ho⟩
theorem cutB_spec {l : List Sp} {s : Sp} (hl : R (-1) l) (hs : validB s = true) : R (-1) (cutB l s) ∧ (cutB l s).length ≤ l.length + 1 ∧ ∀ a, mem (cutB l s) a ↔ mem l a ∧ ¬ ins a s := by
  unfold cutB
  rw [(right_iff l).2 hl, hs]
  by_cases h0 : s.2 = 0
  · simp only [h0, Bool.not_true, Bool.or_self, Bool.false_or, beq_self_eq_true, if_true]
    exact ⟨hl, Nat.le_succ _, fun a => by simp [ins_none h0]⟩
  · have ho := Ok_of hs h0
    simp only [Bool.not_true, Bool.or_self, beq_eq_false_iff_ne.2 h0, Bool.false_eq_true, if_false]
    exact ⟨cutGo_R l s _ hl ho, (cutGo_len l s _ hl ho).1, cutGo_mem l s _ hl ho⟩
theorem addB_bad {l : List Sp} {s : Sp} (hs : validB s = false) : addB l s = l := by simp [addB, hs]
theorem cutB_bad {l : List Sp} {s : Sp} (hs : validB s = false) : cutB l s = l := by simp [cutB, hs]
theorem addB_R {l : List Sp} {s : Sp} (hl : R (-1) l) : R (-1) (addB l s) := by
  cases hs : validB s with
  | true => exact (addB_spec hl hs).1
  | false => rw [addB_bad hs]; exact hl
theorem cutB_R {l : List Sp} {s : Sp} (hl : R (-1) l) : R (-1) (cutB l s) ∧ (cutB l s).length ≤ l.length + 1 := by
  cases hs : validB s with
  | true => exact ⟨(cutB_spec hl hs).1, (cutB_spec hl hs).2.1⟩
  | false => rw [cutB_bad hs]; exact ⟨hl, Nat.le_succ _⟩
theorem addOn_R : ∀ (l z : List Sp), R (-1) z → R (-1) (addOn z l)
  | [], _, h => h
  | s :: r, z, h => addOn_R r (addB z s) (addB_R h)
theorem addOn_mem : ∀ (l z : List Sp), R (-1) z → ∀ a, mem (addOn z l) a ↔ mem z a ∨ ∃ s ∈ l, validB s = true ∧ ins a s
  | [], z, h, a => by simp [addOn]
  | s :: r, z, h, a => by
    show mem (addOn (addB z s) r) a ↔ _
    rw [addOn_mem r _ (addB_R h) a]
    cases hs : validB s with
    | true =>
      rw [(addB_spec h hs).2 a]
      simp [hs, or_assoc]
    | false =>
      rw [addB_bad hs]
      simp [hs]
theorem cutOn_R : ∀ (l z : List Sp), R (-1) z → R (-1) (cutOn z l) ∧ (cutOn z l).length ≤ z.length + l.length
  | [], _, h => ⟨h, Nat.le_refl _⟩
  | s :: r, z, h => by
    obtain ⟨h1, h2⟩ := cutOn_R r (cutB z s) (cutB_R h).1
    have h3 := (cutB_R (s := s) h).2
    refine ⟨h1, ?_⟩
    show (cutOn (cutB z s) r).length ≤ _
    simp only [List.length_cons]
    omega
theorem cutOn_mem : ∀ (l z : List Sp), R (-1) z → ∀ a, mem (cutOn z l) a ↔ mem z a ∧ ¬ ∃ s ∈ l, validB s = true ∧ ins a s
  | [], z, h, a => by simp [cutOn]
  | s :: r, z, h, a => by
    show mem (cutOn (cutB z s) r) a ↔ _
    rw [cutOn_mem r _ (cutB_R h).1 a]
    cases hs : validB s with
    | true =>
      rw [(cutB_spec h hs).2.2 a]
      simp [hs, and_assoc]
    | false =>
      rw [cutB_bad hs]
      simp [hs]
theorem orders_true (l : List Sp) : ordersGo l = true := by
  have h0 : R (-1) [] := trivial
  have hX := addOn_R l [] h0
  have mX := addOn_mem l [] h0
  have e1 : addOn [] l = addOn [] l.reverse := R_unique hX (addOn_R _ _ h0) fun a => by
    rw [mX, addOn_mem _ _ h0]
    simp
  have e2 : addOn [] l = addOn (addOn [] l) (addOn [] l) := R_unique hX (addOn_R _ _ hX) fun a => by
    rw [addOn_mem _ _ hX]
    constructor
    · exact .inl
    · rintro (h | ⟨s, hs, _, h⟩)
      · exact h
      · exact ⟨s, hs, h⟩
  have e3 : cutOn (addOn [] l) l = [] := R_unique (cutOn_R l _ hX).1 h0 fun a => by
    rw [cutOn_mem l _ hX a, mX a]
    simp [mem]
  unfold ordersGo
  rw [← e1, ← e2, e3, (right_iff _).2 hX]
  simp
theorem lawOrders_true (l : List Sp) : lawOrders l = true := by
  unfold lawOrders
  rw [orders_true]
  cases decide ((20 : Int) < l.length) <;> rfl
end Go.RoomLaw
