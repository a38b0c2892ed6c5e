/- Room: the reference's list of the wanted addresses is the program's; the plain law of Tells. No program in sight. -/
import Derived.Test.YtnnmeipmkfbpdaaPlain2
namespace Go.RoomLaw

/-! ### Sorted ends -/
def insR (n : Int) : List Int → List Int
  | [] => [n]
  | x :: r => if x < n then x :: insR n r else if x = n then x :: r else n :: x :: r
theorem insE_eq : ∀ (out : List Int) (n : Int), insE out n = insR n out
  | [], n => by simp [insE, insB, posE, insR]
  | x :: r, n => by
    have ih := insE_eq r n
    by_cases hx : x < n
    · have hp : posE (x :: r) n = posE r n + 1 := by simp [posE, hx]
      have hg : gi (x :: r) (posE r n + 1) = gi r (posE r n) := by simp [gi]
      have hb : insB (x :: r) n = insB r n := by
        unfold insB
        rw [hp, hg]
        congr 1
        simp only [List.length_cons]
        rw [Bool.eq_iff_iff, beq_iff_eq, beq_iff_eq]
        omega
      unfold insR
      rw [if_pos hx, ← ih]
      unfold insE
      rw [hb, hp]
      split <;> simp
    · have hp : posE (x :: r) n = 0 := by simp [posE, hx]
      unfold insR insE
      rw [if_neg hx]
      have hb : insB (x :: r) n = (x != n) := by
        unfold insB
        rw [hp]
        have : (((0 : Nat) : Int) == (((x :: r).length : Nat) : Int)) = false := by
          rw [beq_eq_false_iff_ne]
          simp only [List.length_cons]
          omega
        rw [this]
        simp [gi]
      rw [hb, hp]
      by_cases he : x = n
      · simp [he]
      · simp [he]
theorem insR_mem (n : Int) : ∀ (l : List Int) (x : Int), x ∈ insR n l ↔ x ∈ l ∨ x = n
  | [], x => by simp [insR]
  | y :: r, x => by
    have ih := insR_mem n r x
    unfold insR
    split
    · rw [List.mem_cons, List.mem_cons, ih, or_assoc]
    · split
      · rename_i he
        subst he
        simp only [List.mem_cons]
        constructor
        · exact .inl
        · rintro (h | h)
          · exact h
          · exact .inl h
      · rw [List.mem_cons, or_comm]
theorem insR_sorted (n : Int) : ∀ (l : List Int), l.Pairwise (· < ·) → (insR n l).Pairwise (· < ·)
  | [], _ => by simp [insR]
  | y :: r, h => by
    rw [List.pairwise_cons] at h
    unfold insR
    split
    · rw [List.pairwise_cons]
      refine ⟨fun a ha => ?_, insR_sorted n r h.2⟩
      rcases (insR_mem n r a).1 ha with ha | rfl
      · exact h.1 a ha
      · assumption
    · split
      · exact List.pairwise_cons.2 h
      · rw [List.pairwise_cons]
        refine ⟨fun a ha => ?_, List.pairwise_cons.2 h⟩
        rcases List.mem_cons.1 ha with rfl | ha
        · omega
        · have := h.1 a ha
          omega
theorem endsTo_spec (l : List Sp) : ∀ k, (endsTo l k).Pairwise (· < ·) ∧ ∀ x, x ∈ endsTo l k ↔ ∃ i, i < k ∧ x = nthE l i
  | 0 => ⟨List.Pairwise.nil, fun x => by simp [endsTo]⟩
  | k + 1 => by
    obtain ⟨h1, h2⟩ := endsTo_spec l k
    simp only [endsTo, insE_eq]
    refine ⟨insR_sorted _ _ h1, fun x => ?_⟩
    rw [insR_mem, h2]
    constructor
    · rintro (⟨i, hi, rfl⟩ | rfl)
      · exact ⟨i, by omega, rfl⟩
      · exact ⟨k, by omega, rfl⟩
    · rintro ⟨i, hi, rfl⟩
      rcases Nat.lt_or_eq_of_le (Nat.le_of_lt_succ hi) with hi | rfl
      · exact .inl ⟨i, hi, rfl⟩
      · exact .inr rfl
/-- All spans of L are good. -/
def All (L : List Sp) : Prop := ∀ x ∈ L, 0 ≤ x.1 ∧ 0 ≤ x.2 ∧ x.1 + x.2 ≤ 1099511627776
theorem ends_has {L : List Sp} (hA : All L) {x : Sp} (hx : x ∈ L) : x.1 ∈ endsL L ∧ x.1 + x.2 ∈ endsL L := by
  obtain ⟨j, hj, rfl⟩ := List.getElem_of_mem hx
  have ha := hA _ hx
  constructor
  · refine ((endsTo_spec L _).2 _).2 ⟨2 * j, by omega, ?_⟩
    unfold nthE
    rw [if_neg (by omega), show 2 * j / 2 = j by omega, gt_lt hj]
  · refine ((endsTo_spec L _).2 _).2 ⟨2 * j + 1, by omega, ?_⟩
    unfold nthE
    rw [if_pos (by omega), show (2 * j + 1) / 2 = j by omega, gt_lt hj, w64_in (by omega) (by omega)]
theorem ends_in {L : List Sp} (hA : All L) {n : Int} (hn : n ∈ endsL L) : 0 ≤ n ∧ n ≤ 1099511627776 := by
  obtain ⟨i, hi, rfl⟩ := ((endsTo_spec L _).2 n).1 hn
  have hj : i / 2 < L.length := by omega
  have ha := hA _ (List.getElem_mem hj)
  unfold nthE
  rw [gt_lt hj]
  split
  · rw [w64_in (by omega) (by omega)]
    omega
  · omega
theorem gi_mem {e : List Int} {k : Nat} (h : k < e.length) : gi e k ∈ e := by rw [gi_lt h]; exact List.getElem_mem h
theorem gi_sorted {e : List Int} (h : e.Pairwise (· < ·)) {i j : Nat} (hij : i < j) (hj : j < e.length) : gi e i < gi e j := by
  rw [gi_lt (by omega), gi_lt hj]
  exact List.pairwise_iff_getElem.1 h i j (by omega) hj hij
theorem gi_le {e : List Int} (h : e.Pairwise (· < ·)) {i j : Nat} (hij : i ≤ j) (hj : j < e.length) : gi e i ≤ gi e j := by
  rcases Nat.lt_or_eq_of_le hij with hij | rfl
  · have := gi_sorted h hij hj
    omega
  · exact Int.le_refl _
/-- Between two neighbouring ends nothing turns. -/
theorem between {e : List Int} (h : e.Pairwise (· < ·)) {k : Nat} (hk : k + 1 < e.length) {a n : Int} (h1 : gi e k ≤ a) (h2 : a < gi e (k + 1)) (hn : n ∈ e) : n ≤ a ↔ n ≤ gi e k := by
  obtain ⟨i, hi, rfl⟩ := List.getElem_of_mem hn
  rw [← gi_lt hi]
  constructor
  · intro hle
    rcases Nat.lt_or_ge k i with hki | hki
    · have := gi_le h (show k + 1 ≤ i by omega) hi
      omega
    · exact gi_le h hki (by omega)
  · intro hle
    omega
theorem find_between {e : List Int} {a : Int} (h0 : gi e 0 ≤ a) : ∀ q, q < e.length → a < gi e q → ∃ j, j + 1 < e.length ∧ gi e j ≤ a ∧ a < gi e (j + 1)
  | 0, _, h => by omega
  | q + 1, hq, h => by
    by_cases hl : a < gi e q
    · exact find_between h0 q (by omega) hl
    · exact ⟨q, hq, by omega, h⟩
theorem inB_mem {l : List Sp} (hA : All l) (a : Int) : inB l a = true ↔ mem l a := by
  unfold inB mem ins inS
  rw [List.any_eq_true]
  constructor
  · rintro ⟨x, hx, h⟩
    have ha := hA x hx
    rw [endS_of ha.1 ha.2.1 ha.2.2, Bool.and_eq_true, decide_eq_true_eq, decide_eq_true_eq] at h
    exact ⟨x, hx, h⟩
  · rintro ⟨x, hx, h⟩
    have ha := hA x hx
    refine ⟨x, hx, ?_⟩
    rw [endS_of ha.1 ha.2.1 ha.2.2, Bool.and_eq_true, decide_eq_true_eq, decide_eq_true_eq]
    exact h
/-! ### Lists that grow at their end -/
def lastE : Int → List Sp → Int
  | lo, [] => lo
  | _, x :: r => lastE (x.1 + x.2) r
theorem R_snoc : ∀ (l : List Sp) (x : Sp) (lo : Int), R lo (l ++ [x]) ↔ R lo l ∧ lastE lo l < x.1 ∧ 0 ≤ x.1 ∧ 0 < x.2 ∧ x.1 + x.2 ≤ 1099511627776
  | [], x, lo => by simp [R, lastE]
  | y :: l, x, lo => by
    have ih := R_snoc l x (y.1 + y.2)
    simp only [List.cons_append, R, ih, lastE, and_assoc]
theorem lastE_snoc : ∀ (l : List Sp) (x : Sp) (lo : Int), lastE lo (l ++ [x]) = x.1 + x.2
  | [], _, _ => rfl
  | _ :: l, x, _ => lastE_snoc l x _
theorem gt_snoc (o : List Sp) (z : Sp) : gt (o ++ [z]) ((o ++ [z]).length - 1) = z := by simp [gt]
theorem set_snoc (o : List Sp) (z y : Sp) : (o ++ [z]).set ((o ++ [z]).length - 1) y = o ++ [y] := by simp
/-- What is wanted of an address. -/
def wanted (l : List Sp) (s : Sp) (add : Bool) (a : Int) : Prop := if add = true then mem l a ∨ ins a s else mem l a ∧ ¬ ins a s
section
variable {l : List Sp} {s : Sp} {add : Bool}
theorem all_of (hl : R (-1) l) (hs : validB s = true) : All (l ++ [s]) := by
  intro x hx
  rcases List.mem_append.1 hx with hx | hx
  · have := R_elem hl hx
    omega
  · rw [List.mem_singleton] at hx
    subst hx
    exact (valid_iff x).1 hs
theorem skip_iff (hl : R (-1) l) (hs : validB s = true) (a : Int) : skipB add (inB l a) (inB [s] a) = false ↔ wanted l s add a := by
  have h1 := inB_mem (fun x hx => all_of hl hs x (List.mem_append.2 (.inl hx))) a
  have h2 : inB [s] a = true ↔ ins a s := by
    rw [inB_mem (fun x hx => all_of hl hs x (List.mem_append.2 (.inr hx))) a]
    simp [mem]
  unfold wanted skipB
  rw [← h1, ← h2]
  cases add <;> cases inB l a <;> cases inB [s] a <;> simp
theorem wanted_same (hl : R (-1) l) (hs : validB s = true) {k : Nat} (hk : k + 1 < (endsL (l ++ [s])).length) {a : Int} (h1 : gi (endsL (l ++ [s])) k ≤ a) (h2 : a < gi (endsL (l ++ [s])) (k + 1)) :
    wanted l s add a ↔ wanted l s add (gi (endsL (l ++ [s])) k) := by
  have hA := all_of hl hs
  have hS := (endsTo_spec (l ++ [s]) (2 * (l ++ [s]).length)).1
  have key : ∀ x ∈ l ++ [s], (ins a x ↔ ins (gi (endsL (l ++ [s])) k) x) := fun x hx => by
    have he := ends_has hA hx
    have b1 := between hS hk h1 h2 he.1
    have b2 := between hS hk h1 h2 he.2
    change x.1 ≤ a ↔ x.1 ≤ gi (endsL (l ++ [s])) k at b1
    change x.1 + x.2 ≤ a ↔ x.1 + x.2 ≤ gi (endsL (l ++ [s])) k at b2
    unfold ins
    omega
  have k1 : mem l a ↔ mem l (gi (endsL (l ++ [s])) k) := by
    unfold mem
    constructor
    · rintro ⟨x, hx, h⟩
      exact ⟨x, hx, (key x (List.mem_append.2 (.inl hx))).1 h⟩
    · rintro ⟨x, hx, h⟩
      exact ⟨x, hx, (key x (List.mem_append.2 (.inl hx))).2 h⟩
  have k2 := key s (List.mem_append.2 (.inr (List.mem_singleton.2 rfl)))
  unfold wanted
  rw [k1, k2]
theorem lastOK_false {out : List Sp} {n : Int} (hR : R (-1) out) (hle : lastE (-1) out ≤ n) (h0 : 0 ≤ n) (h : lastOK out n = false) : lastE (-1) out < n := by
  rcases List.eq_nil_or_concat out with rfl | ⟨o, z, rfl⟩
  · simp only [lastE]
    omega
  · simp only [List.concat_eq_append] at *
    have hz := (R_snoc o z _).1 hR
    rw [lastE_snoc] at hle ⊢
    unfold lastOK at h
    rw [gt_snoc, endS_of hz.2.2.1 (by omega) hz.2.2.2.2] at h
    simp only [List.length_append, List.length_cons, List.length_nil, Bool.and_eq_false_iff, decide_eq_false_iff_not, beq_eq_false_iff_ne] at h
    omega
theorem lastOK_true {out : List Sp} {n : Int} (hR : R (-1) out) (h : lastOK out n = true) : ∃ o z, out = o ++ [z] ∧ z.1 + z.2 = n := by
  rcases List.eq_nil_or_concat out with rfl | ⟨o, z, rfl⟩
  · simp [lastOK] at h
  · simp only [List.concat_eq_append] at *
    have hz := (R_snoc o z _).1 hR
    unfold lastOK at h
    rw [gt_snoc, endS_of hz.2.2.1 (by omega) hz.2.2.2.2, Bool.and_eq_true, beq_iff_eq] at h
    exact ⟨o, z, rfl, h.2⟩
theorem ofTo_spec (hl : R (-1) l) (hs : validB s = true) : ∀ k, k + 1 ≤ (endsL (l ++ [s])).length →
    R (-1) (ofTo l s add (endsL (l ++ [s])) k) ∧ lastE (-1) (ofTo l s add (endsL (l ++ [s])) k) ≤ gi (endsL (l ++ [s])) k ∧
    ∀ a, mem (ofTo l s add (endsL (l ++ [s])) k) a ↔ ∃ j, j < k ∧ wanted l s add (gi (endsL (l ++ [s])) j) ∧ gi (endsL (l ++ [s])) j ≤ a ∧ a < gi (endsL (l ++ [s])) (j + 1)
  | 0, h => by
    have := ends_in (all_of hl hs) (gi_mem (show 0 < _ by omega))
    exact ⟨trivial, by simp only [ofTo, lastE]; omega, fun a => by simp [ofTo, mem]⟩
  | k + 1, h => by
    obtain ⟨i1, i2, i3⟩ := ofTo_spec hl hs k (by omega)
    have hS := (endsTo_spec (l ++ [s]) (2 * (l ++ [s]).length)).1
    have hlt : gi (endsL (l ++ [s])) k < gi (endsL (l ++ [s])) (k + 1) := gi_sorted hS (show k < k + 1 by omega) (show k + 1 < (endsL (l ++ [s])).length by omega)
    have hb1 := ends_in (all_of hl hs) (gi_mem (show k < _ by omega))
    have hb2 := ends_in (all_of hl hs) (gi_mem (show k + 1 < _ by omega))
    have hsk := skip_iff (add := add) hl hs (gi (endsL (l ++ [s])) k)
    have hstep : ∀ a, (∃ j, j < k + 1 ∧ wanted l s add (gi (endsL (l ++ [s])) j) ∧ gi (endsL (l ++ [s])) j ≤ a ∧ a < gi (endsL (l ++ [s])) (j + 1)) ↔
        mem (ofTo l s add (endsL (l ++ [s])) k) a ∨ (wanted l s add (gi (endsL (l ++ [s])) k) ∧ gi (endsL (l ++ [s])) k ≤ a ∧ a < gi (endsL (l ++ [s])) (k + 1)) := by
      intro a
      rw [i3]
      constructor
      · rintro ⟨j, hj, hq⟩
        rcases Nat.lt_or_eq_of_le (Nat.le_of_lt_succ hj) with hj | rfl
        · exact .inl ⟨j, hj, hq⟩
        · exact .inr hq
      · rintro (⟨j, hj, hq⟩ | hq)
        · exact ⟨j, by omega, hq⟩
        · exact ⟨k, by omega, hq⟩
    have hun : ofTo l s add (endsL (l ++ [s])) (k + 1) = stepOf l s add (endsL (l ++ [s])) (ofTo l s add (endsL (l ++ [s])) k) k := rfl
    simp only [hstep]
    rw [hun]
    unfold stepOf
    clear hstep hun i3
    generalize ofTo l s add (endsL (l ++ [s])) k = out at *
    generalize gi (endsL (l ++ [s])) k = n at *
    generalize gi (endsL (l ++ [s])) (k + 1) = m at *
    cases hq : skipB add (inB l n) (inB [s] n) with
    | true =>
      have hw : ¬ wanted l s add n := fun hw => by rw [hsk.2 hw] at hq; cases hq
      simp only [if_true]
      exact ⟨i1, by omega, fun a => by simp [hw]⟩
    | false =>
      have hw := hsk.1 hq
      simp only [Bool.false_eq_true, if_false]
      cases ho : lastOK out n with
      | true =>
        obtain ⟨o, z, rfl, hz⟩ := lastOK_true i1 ho
        have hr := (R_snoc o z _).1 i1
        simp only [if_true]
        rw [set_snoc, gt_snoc, w64_in (by omega) (by omega)]
        refine ⟨(R_snoc o _ _).2 ⟨hr.1, hr.2.1, hr.2.2.1, by simp only; omega, by simp only; omega⟩, by rw [lastE_snoc]; simp only; omega, fun a => ?_⟩
        rw [mem_append, mem_append]
        simp only [mem, List.mem_singleton, exists_eq_left, ins, hw, true_and, or_assoc]
        constructor
        · rintro (hx | hx)
          · exact .inl hx
          · right
            omega
        · rintro (hx | hx)
          · exact .inl hx
          · right
            omega
      | false =>
        have hl2 := lastOK_false i1 i2 hb1.1 ho
        simp only [Bool.false_eq_true, if_false]
        rw [w64_in (by omega) (by omega)]
        refine ⟨(R_snoc out _ _).2 ⟨i1, hl2, hb1.1, by simp only; omega, by simp only; omega⟩, by rw [lastE_snoc]; simp only; omega, fun a => ?_⟩
        rw [mem_append]
        simp only [mem, List.mem_singleton, exists_eq_left, ins, hw, true_and]
        constructor
        · rintro (hx | hx)
          · exact .inl hx
          · right
            omega
        · rintro (hx | hx)
          · exact .inl hx
          · right
            omega
theorem ofL_spec (hl : R (-1) l) (hs : validB s = true) : R (-1) (ofL l s add) ∧ ∀ a, mem (ofL l s add) a ↔ wanted l s add a := by
  have hA := all_of hl hs
  have hS : (endsL (l ++ [s])).Pairwise (· < ·) := (endsTo_spec (l ++ [s]) (2 * (l ++ [s]).length)).1
  have hpos : 0 < (endsL (l ++ [s])).length := List.length_pos_of_mem (ends_has hA (List.mem_append.2 (.inr (List.mem_singleton.2 rfl)))).1
  obtain ⟨h1, _, h3⟩ := ofTo_spec (add := add) hl hs ((endsL (l ++ [s])).length - 1) (by omega)
  refine ⟨h1, fun a => ?_⟩
  show mem (ofTo l s add (endsL (l ++ [s])) _) a ↔ _
  rw [h3]
  constructor
  · rintro ⟨j, hj, hw, ha, hb⟩
    exact (wanted_same hl hs (by omega) ha hb).2 hw
  · intro hw
    have : ∃ x ∈ l ++ [s], ins a x := by
      unfold wanted mem at hw
      cases add
      · simp only [Bool.false_eq_true, if_false] at hw
        obtain ⟨⟨x, hx, hi⟩, _⟩ := hw
        exact ⟨x, List.mem_append.2 (.inl hx), hi⟩
      · simp only [if_true] at hw
        rcases hw with ⟨x, hx, hi⟩ | hi
        · exact ⟨x, List.mem_append.2 (.inl hx), hi⟩
        · exact ⟨s, List.mem_append.2 (.inr (List.mem_singleton.2 rfl)), hi⟩
    obtain ⟨x, hx, hi⟩ := this
    have he := ends_has hA hx
    unfold ins at hi
    obtain ⟨q0, hq0, e0⟩ := List.getElem_of_mem he.1
    obtain ⟨q1, hq1, e1⟩ := List.getElem_of_mem he.2
    rw [← gi_lt hq0] at e0
    rw [← gi_lt hq1] at e1
    have h0 := gi_le hS (Nat.zero_le q0) hq0
    obtain ⟨j, hj, ha, hb⟩ := find_between (e := endsL (l ++ [s])) (a := a) (by omega) q1 hq1 (by omega)
    exact ⟨j, by omega, (wanted_same hl hs hj ha hb).1 hw, ha, hb⟩
end
theorem refAdd_eq (l : List Sp) (s : Sp) : refAddB l s = addB l s := by
  unfold refAddB
  cases hr : rightB l with
  | false => simp [addB, hr]
  | true =>
    cases hv : validB s with
    | false => simp [addB_bad hv]
    | true =>
      have h := (right_iff l).1 hr
      simp only [Bool.not_true, Bool.or_self, Bool.false_eq_true, if_false]
      refine R_unique (ofL_spec h hv).1 (addB_R h) fun a => ?_
      rw [(ofL_spec h hv).2, (addB_spec h hv).2]
      simp [wanted]
theorem refCut_eq (l : List Sp) (s : Sp) : refCutB l s = cutB l s := by
  unfold refCutB
  cases hr : rightB l with
  | false => simp [cutB, hr]
  | true =>
    cases hv : validB s with
    | false => simp [cutB_bad hv]
    | true =>
      have h := (right_iff l).1 hr
      simp only [Bool.not_true, Bool.or_self, Bool.false_eq_true, if_false]
      refine R_unique (ofL_spec h hv).1 (cutB_R h).1 fun a => ?_
      rw [(ofL_spec h hv).2, (cutB_spec h hv).2.2]
      simp [wanted]
theorem refHas_eq (l : List Sp) (s : Sp) : refHasB l s = hasB l s := by
  unfold refHasB
  cases hr : rightB l with
  | false => simp [hasB, hr]
  | true =>
    cases hv : validB s with
    | false => simp [hasB, hv]
    | true => rw [refAdd_eq, has_counts ((right_iff l).1 hr) hv]; simp
theorem refMeets_eq (l : List Sp) (s : Sp) : refMeetsB l s = meetsB l s := by
  unfold refMeetsB
  cases hr : rightB l with
  | false => simp [meetsB, hr]
  | true =>
    cases hv : validB s with
    | false => simp [meetsB, hv]
    | true => rw [refCut_eq, meets_counts ((right_iff l).1 hr) hv]; simp

/-! ### Places -/
/-- The least multiple of n from X on. -/
def U (X n : Int) : Int := if X % n = 0 then X else X - X % n + n
theorem mod_bounds {X n : Int} (hn : 1 ≤ n) : 0 ≤ X % n ∧ X % n < n := ⟨Int.emod_nonneg _ (by omega), Int.emod_lt_of_pos _ (by omega)⟩
theorem U_ge {X n : Int} (hn : 1 ≤ n) : X ≤ U X n ∧ U X n ≤ X + n := by
  have := mod_bounds (X := X) hn
  unfold U
  split <;> omega
theorem U_mod {X n : Int} : U X n % n = 0 := by
  unfold U
  split
  · assumption
  · have := Int.mul_ediv_add_emod X n
    have e : X - X % n + n = n * (X / n + 1) := by rw [Int.mul_add, Int.mul_one]; omega
    rw [e, Int.mul_emod_right]
theorem U_least {X n c : Int} (hn : 1 ≤ n) (hc : c % n = 0) (h : X ≤ c) : U X n ≤ c := by
  unfold U
  split
  · exact h
  · have hm := mod_bounds (X := X) hn
    have e1 := Int.mul_ediv_add_emod X n
    have e2 := Int.mul_ediv_add_emod c n
    have e : X - X % n + n = n * (X / n + 1) := by rw [Int.mul_add, Int.mul_one]; omega
    rw [e]
    have hlt : n * (X / n) < n * (c / n) := by omega
    have hq := Int.lt_of_mul_lt_mul_left hlt (by omega : 0 ≤ n)
    have := Int.mul_le_mul_of_nonneg_left (show X / n + 1 ≤ c / n by omega) (show 0 ≤ n by omega)
    omega
theorem up_of {X n : Int} (h0 : 0 ≤ X) (h1 : X ≤ 1099511627776) (hn : 1 ≤ n) (hm : n ≤ 1099511627776) : upW X n = U X n := by
  have hb := mod_bounds (X := X) hn
  have ht : X.tmod n = X % n := Int.tmod_eq_emod_of_nonneg h0
  have hd : downW X n = X - X % n := by
    unfold downW
    rw [if_neg, ht, if_neg (by omega), w64_in (by omega) (by omega)]
    simp [bad4]
    omega
  unfold upW U
  rw [hd]
  by_cases h : X % n = 0
  · rw [if_neg (by simp [h]), if_pos h]
  · rw [if_pos (by simp only [bne_iff_ne]; omega), if_neg h, w64_in (by omega) (by omega)]
theorem refA_of {x : Sp} {n from_ : Int} (h0 : 0 ≤ max x.1 from_) (h1 : max x.1 from_ ≤ 1099511627776) (hn : 1 ≤ n) (hm : n ≤ 1099511627776) : refA x n from_ = U (max x.1 from_) n := by
  have hb := mod_bounds (X := max x.1 from_) hn
  have ht : (max x.1 from_).tmod n = max x.1 from_ % n := Int.tmod_eq_emod_of_nonneg h0
  unfold refA U
  rw [ht]
  by_cases h : max x.1 from_ % n = 0
  · rw [if_neg (by simp [h]), if_pos h]
  · rw [if_pos (by simp [h]), if_neg h, w64_in (n := max x.1 from_ - max x.1 from_ % n) (by omega) (by omega), w64_in (by omega) (by omega)]
def fitP (size align from_ until_ : Int) : List Sp → Int × Bool
  | [] => (0, false)
  | x :: r => if U (max x.1 from_) align + size ≤ min (x.1 + x.2) until_ then (U (max x.1 from_) align, true) else fitP size align from_ until_ r
section
variable {size align from_ until_ : Int} (hs : 1 ≤ size ∧ size ≤ 1099511627776) (ha : 1 ≤ align ∧ align ≤ 1099511627776) (hf : from_ ≤ 1099511627776)
include hs ha hf
theorem fitGo_eq : ∀ (l : List Sp) (lo : Int), R lo l → fitGo size align from_ until_ l = fitP size align from_ until_ l
  | [], _, _ => rfl
  | x :: r, lo, ⟨h1, h2, h3, h4, h5⟩ => by
    have ih := fitGo_eq r _ h5
    have hu := U_ge (X := max x.1 from_) ha.1
    unfold fitGo fitP
    rw [ih, up_of (by omega) (by omega) ha.1 ha.2, endS_of h2 (by omega) h4, w64_in (by omega) (by omega)]
theorem refFitGo_eq : ∀ (l : List Sp) (lo : Int), R lo l → refFitGo size align from_ until_ l = fitP size align from_ until_ l
  | [], _, _ => rfl
  | x :: r, lo, ⟨h1, h2, h3, h4, h5⟩ => by
    have ih := refFitGo_eq r _ h5
    have hu := U_ge (X := max x.1 from_) ha.1
    unfold refFitGo fitP
    rw [ih, refA_of (by omega) (by omega) ha.1 ha.2, endS_of h2 (by omega) h4, w64_in (by omega) (by omega)]
    by_cases hc : U (max x.1 from_) align + size ≤ min (x.1 + x.2) until_
    · rw [if_pos hc, if_pos (by rw [Bool.and_eq_true, decide_eq_true_eq, decide_eq_true_eq]; omega)]
    · rw [if_neg hc, if_neg (by rw [Bool.and_eq_true, decide_eq_true_eq, decide_eq_true_eq]; omega)]
end
theorem fitBad_of {l : List Sp} {size align from_ : Int} (h : fitBad l size align from_ = false) : R (-1) l ∧ (1 ≤ size ∧ size ≤ 1099511627776) ∧ (1 ≤ align ∧ align ≤ 1099511627776) ∧ from_ ≤ 1099511627776 := by
  simp only [fitBad, Bool.or_eq_false_iff, decide_eq_false_iff_not, Bool.not_eq_false'] at h
  obtain ⟨⟨⟨⟨⟨h1, h2⟩, h3⟩, h4⟩, h5⟩, h6⟩ := h
  exact ⟨(right_iff l).1 h1, by omega, by omega, by omega⟩
theorem refFit_eq (l : List Sp) (size align from_ until_ : Int) : refFitB l size align from_ until_ = fitB l size align from_ until_ := by
  unfold refFitB fitB
  cases hb : fitBad l size align from_ with
  | true => rfl
  | false =>
    obtain ⟨h, hs, ha, hf⟩ := fitBad_of hb
    simp only [Bool.false_eq_true, if_false]
    rw [fitGo_eq hs ha hf l _ h, refFitGo_eq hs ha hf l _ h]
theorem lawTells_true (l : List Sp) (s : Sp) (size align from_ until_ : Int) : lawTells l s size align from_ until_ = true := by
  unfold lawTells
  cases decide ((40 : Int) < l.length) with
  | true => rfl
  | false =>
    show tellsGo l s size align from_ until_ = true
    unfold tellsGo
    rw [refFit_eq, refAdd_eq, refCut_eq, refHas_eq, refMeets_eq]
    simp
end Go.RoomLaw
