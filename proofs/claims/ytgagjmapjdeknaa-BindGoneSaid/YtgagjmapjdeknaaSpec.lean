/- Bind: modules as plain data; what serves what, as the reference's list. No program in sight. -/
import GoSem.Core.Value
namespace Go.BindLaw

structure Vd where
  name : ByteArray
  parents : List ByteArray
structure Ex where
  name : ByteArray
  version : ByteArray
  main : Bool
  at_ : Int
structure Mo where
  needs : List Int
  base : Int
  space : Int
  root : Int
  gone : Bool
  exports : List Ex
  versions : List Vd

/-! ### What a string serves -/
/-- The number of the first declaration with a name. -/
def findV (l : List Vd) (s : ByteArray) : Option Nat := l.findIdx? fun d => decide (d.name = s)
def findI (l : List Vd) (s : ByteArray) : Int := match findV l s with
  | some i => i
  | none => -1
theorem findV_hit {l : List Vd} {s : ByteArray} {k : Nat} (h : k < l.length) (hk : l[k].name = s) (hb : ∀ j (h : j < l.length), j < k → l[j].name ≠ s) : findV l s = some k := by
  unfold findV
  rw [List.findIdx?_eq_some_iff_getElem]
  exact ⟨h, decide_eq_true hk, fun j hj => by simpa using hb j (Nat.lt_trans hj h) hj⟩
theorem findV_miss {l : List Vd} {s : ByteArray} (hb : ∀ j (h : j < l.length), l[j].name ≠ s) : findV l s = none := by
  unfold findV
  rw [List.findIdx?_eq_none_iff]
  intro x hx
  obtain ⟨k, hk, rfl⟩ := List.getElem_of_mem hx
  simpa using hb k hk
theorem findI_hit {l : List Vd} {s : ByteArray} {k : Nat} (h : k < l.length) (hk : l[k].name = s) (hb : ∀ j (h : j < l.length), j < k → l[j].name ≠ s) : findI l s = k := by rw [findI, findV_hit h hk hb]
theorem findI_miss {l : List Vd} {s : ByteArray} (hb : ∀ j (h : j < l.length), l[j].name ≠ s) : findI l s = -1 := by rw [findI, findV_miss hb]
/-- The parents of a string. -/
def parAt (l : List Vd) (i : Nat) : List ByteArray := match l[i]? with
  | some d => d.parents
  | none => []
theorem parAt_lt {l : List Vd} {i : Nat} (h : i < l.length) : parAt l i = l[i].parents := by rw [parAt, List.getElem?_eq_getElem h]
def par (l : List Vd) (s : ByteArray) : List ByteArray := match findV l s with
  | some i => parAt l i
  | none => []
theorem findV_lt {l : List Vd} {s : ByteArray} {i : Nat} (h : findV l s = some i) : i < l.length := by
  unfold findV at h
  rw [List.findIdx?_eq_some_iff_getElem] at h
  exact h.1
theorem findI_neg {l : List Vd} {s : ByteArray} (h : findI l s < 0) : par l s = [] := by
  unfold findI at h
  unfold par
  cases hf : findV l s with
  | none => rfl
  | some i => rw [hf] at h; simp only at h; omega
theorem findI_ge {l : List Vd} {s : ByteArray} (h : ¬ findI l s < 0) : ∃ i, ∃ h : i < l.length, findI l s = i ∧ par l s = l[i].parents := by
  unfold findI at h ⊢
  unfold par
  cases hf : findV l s with
  | none => rw [hf] at h; simp at h
  | some i => exact ⟨i, findV_lt hf, rfl, parAt_lt (findV_lt hf)⟩
def hasS (l : List ByteArray) (s : ByteArray) : Bool := l.any fun x => decide (x = s)
theorem hasS_iff {l : List ByteArray} {s : ByteArray} : hasS l s = true ↔ s ∈ l := by
  unfold hasS
  rw [List.any_eq_true]
  constructor
  · rintro ⟨x, hx, h⟩
    rw [← of_decide_eq_true h]
    exact hx
  · intro h
    exact ⟨s, h, decide_eq_true rfl⟩
def snoc1 (out : List ByteArray) (p : ByteArray) : List ByteArray := if hasS out p = true then out else out ++ [p]
def addAll (out ps : List ByteArray) : List ByteArray := ps.foldl snoc1 out
/-- The reference's list when i of its elements have been asked. -/
def allTo (l : List Vd) (v : ByteArray) : Nat → List ByteArray
  | 0 => [v]
  | i + 1 => match (allTo l v i)[i]? with
    | some s => addAll (allTo l v i) (par l s)
    | none => allTo l v i
/-- All strings that may come up. -/
def univ (l : List Vd) (v : ByteArray) : List ByteArray := v :: l.flatMap (·.parents)
inductive Reach (l : List Vd) (v : ByteArray) : ByteArray → Prop
  | refl : Reach l v v
  | step {a b : ByteArray} : Reach l v a → b ∈ par l a → Reach l v b
theorem snoc1_mem (out : List ByteArray) (p x : ByteArray) : x ∈ snoc1 out p ↔ x ∈ out ∨ x = p := by
  unfold snoc1
  split
  · rename_i hh
    constructor
    · exact .inl
    · rintro (h | rfl)
      · exact h
      · exact hasS_iff.1 hh
  · simp
theorem addAll_mem : ∀ (ps out : List ByteArray) (x : ByteArray), x ∈ addAll out ps ↔ x ∈ out ∨ x ∈ ps
  | [], out, x => by simp [addAll]
  | p :: ps, out, x => by
    show x ∈ addAll (snoc1 out p) ps ↔ _
    rw [addAll_mem ps, snoc1_mem, List.mem_cons, or_assoc]
theorem snoc1_nodup {out : List ByteArray} (h : out.Nodup) (p : ByteArray) : (snoc1 out p).Nodup := by
  unfold snoc1
  split
  · exact h
  · rename_i hh
    rw [List.nodup_append]
    refine ⟨h, by simp, fun a ha b hb => ?_⟩
    rw [List.mem_singleton] at hb
    subst hb
    intro e
    subst e
    exact hh (hasS_iff.2 ha)
theorem addAll_nodup : ∀ (ps out : List ByteArray), out.Nodup → (addAll out ps).Nodup
  | [], _, h => h
  | p :: ps, _, h => addAll_nodup ps _ (snoc1_nodup h p)
theorem snoc1_pre (out : List ByteArray) (p : ByteArray) : out <+: snoc1 out p := by
  unfold snoc1
  split
  · exact List.prefix_refl _
  · exact List.prefix_append _ _
theorem addAll_pre : ∀ (ps out : List ByteArray), out <+: addAll out ps
  | [], _ => List.prefix_refl _
  | p :: ps, out => (snoc1_pre out p).trans (addAll_pre ps _)
theorem par_univ {l : List Vd} {v s x : ByteArray} (h : x ∈ par l s) : x ∈ univ l v := by
  unfold par parAt at h
  cases hf : findV l s with
  | none => rw [hf] at h; cases h
  | some i =>
    rw [hf] at h
    simp only at h
    cases hi : l[i]? with
    | none => rw [hi] at h; cases h
    | some d =>
      rw [hi] at h
      exact List.mem_cons_of_mem _ (List.mem_flatMap.2 ⟨d, List.mem_of_getElem? hi, h⟩)
theorem allTo_nodup (l : List Vd) (v : ByteArray) : ∀ i, (allTo l v i).Nodup
  | 0 => by simp [allTo]
  | i + 1 => by
    have ih := allTo_nodup l v i
    simp only [allTo]
    split
    · exact addAll_nodup _ _ ih
    · exact ih
theorem allTo_univ (l : List Vd) (v : ByteArray) : ∀ i x, x ∈ allTo l v i → x ∈ univ l v
  | 0, x, h => by
    rw [allTo, List.mem_singleton] at h
    rw [h]
    exact List.mem_cons_self ..
  | i + 1, x, h => by
    have ih := allTo_univ l v i x
    simp only [allTo] at h
    split at h
    · rcases (addAll_mem _ _ _).1 h with h | h
      · exact ih h
      · exact par_univ h
    · exact ih h
theorem nodup_len {α : Type} [DecidableEq α] : ∀ (a b : List α), a.Nodup → (∀ x ∈ a, x ∈ b) → a.length ≤ b.length
  | [], b, _, _ => Nat.zero_le _
  | x :: a, b, h, hs => by
    rw [List.nodup_cons] at h
    have hx : x ∈ b := hs x (List.mem_cons_self ..)
    have ih := nodup_len a (b.erase x) h.2 fun y hy => by
      have hne : y ≠ x := fun e => h.1 (e ▸ hy)
      exact (List.mem_erase_of_ne hne).2 (hs y (List.mem_cons_of_mem _ hy))
    rw [List.length_erase_of_mem hx] at ih
    have : 0 < b.length := List.length_pos_of_mem hx
    simp only [List.length_cons]
    omega
theorem allTo_len (l : List Vd) (v : ByteArray) (i : Nat) : (allTo l v i).length ≤ (univ l v).length := nodup_len _ _ (allTo_nodup l v i) (allTo_univ l v i)
theorem allTo_reach (l : List Vd) (v : ByteArray) : ∀ i x, x ∈ allTo l v i → Reach l v x
  | 0, x, h => by
    rw [allTo, List.mem_singleton] at h
    rw [h]
    exact .refl
  | i + 1, x, h => by
    have ih := allTo_reach l v i
    simp only [allTo] at h
    split at h
    · rename_i s hs
      rcases (addAll_mem _ _ _).1 h with h | h
      · exact ih x h
      · exact .step (ih s (List.mem_of_getElem? hs)) h
    · exact ih x h
theorem allTo_pre (l : List Vd) (v : ByteArray) (i : Nat) : allTo l v i <+: allTo l v (i + 1) := by
  simp only [allTo]
  split
  · exact addAll_pre _ _
  · exact List.prefix_refl _
/-- The elements that have been asked have their parents in the list. -/
theorem allTo_closed (l : List Vd) (v : ByteArray) : ∀ i j (h : j < (allTo l v i).length), j < i → ∀ p ∈ par l (allTo l v i)[j], p ∈ allTo l v i
  | 0, j, _, h, _, _ => absurd h (Nat.not_lt_zero j)
  | i + 1, j, h, hj, p, hp => by
    have hpre := allTo_pre l v i
    by_cases hl : j < (allTo l v i).length
    · have he : (allTo l v (i + 1))[j] = (allTo l v i)[j] := by
        obtain ⟨t, ht⟩ := hpre
        simp only [← ht, List.getElem_append_left hl]
      rw [he] at hp
      rcases Nat.lt_or_eq_of_le (Nat.le_of_lt_succ hj) with hj | rfl
      · exact hpre.subset (allTo_closed l v i j hl hj p hp)
      · simp only [allTo, List.getElem?_eq_getElem hl]
        exact (addAll_mem _ _ _).2 (.inr hp)
    · simp only [allTo, List.getElem?_eq_none (show (allTo l v i).length ≤ i by omega)] at h
      exact absurd h hl
/-- The reference's list: what has come up when all have been asked. -/
def allL (l : List Vd) (v : ByteArray) : List ByteArray := allTo l v (univ l v).length
theorem allL_mem (l : List Vd) (v x : ByteArray) : x ∈ allL l v ↔ Reach l v x := by
  constructor
  · exact allTo_reach l v _ x
  · intro h
    induction h with
    | refl =>
      have : ∀ i, v ∈ allTo l v i := by
        intro i
        induction i with
        | zero => simp [allTo]
        | succ i ih => exact (allTo_pre l v i).subset ih
      exact this _
    | step _ hb ih =>
      obtain ⟨j, hj, he⟩ := List.getElem_of_mem ih
      have hlen := allTo_len l v (univ l v).length
      subst he
      exact allTo_closed l v _ j hj (Nat.lt_of_lt_of_le hj hlen) _ hb
theorem allTo_next {l : List Vd} {v : ByteArray} {i : Nat} (h : i < (allTo l v i).length) : allTo l v (i + 1) = addAll (allTo l v i) (par l (allTo l v i)[i]) := by
  rw [allTo, List.getElem?_eq_getElem h]
theorem allTo_stop {l : List Vd} {v : ByteArray} {i : Nat} (h : (allTo l v i).length ≤ i) : ∀ m, allTo l v (i + m) = allTo l v i
  | 0 => rfl
  | m + 1 => by
    have ih := allTo_stop h m
    rw [show i + (m + 1) = (i + m) + 1 from rfl, allTo, ih, List.getElem?_eq_none (by omega)]
theorem allL_of {l : List Vd} {v : ByteArray} {i : Nat} (h : (allTo l v i).length ≤ i) (h2 : i ≤ (allTo l v i).length) : allL l v = allTo l v i := by
  have hl := allTo_len l v i
  have := allTo_stop h ((univ l v).length - i)
  rw [show i + ((univ l v).length - i) = (univ l v).length by omega] at this
  exact this
theorem addAll_len (l : List Vd) (v s : ByteArray) (i j : Nat) : (addAll (allTo l v i) ((par l s).take j)).length ≤ (univ l v).length :=
  nodup_len _ _ (addAll_nodup _ _ (allTo_nodup l v i)) fun x hx => by
    rcases (addAll_mem _ _ _).1 hx with hx | hx
    · exact allTo_univ l v i x hx
    · exact par_univ (List.mem_of_mem_take hx)
theorem addAll_take (out ps : List ByteArray) {j : Nat} (h : j < ps.length) : addAll out (ps.take (j + 1)) = snoc1 (addAll out (ps.take j)) ps[j] := by
  unfold addAll
  rw [List.take_succ_eq_append_getElem h, List.foldl_append]
  rfl
theorem findV_take (l : List Vd) (s : ByteArray) {k : Nat} (h : k < l.length) : findV (l.take (k + 1)) s = (findV (l.take k) s).or (if l[k].name = s then some k else none) := by
  unfold findV
  rw [List.take_succ_eq_append_getElem h, List.findIdx?_append]
  congr 1
  have hk : min k l.length = k := by omega
  by_cases hs : l[k].name = s
  · simp [List.findIdx?_cons, hs, hk]
  · simp [List.findIdx?_cons, hs]
/-! ### The set that grows: what a visit does -/
theorem reach_univ {l : List Vd} {v x : ByteArray} (h : Reach l v x) : x ∈ univ l v := by
  cases h with
  | refl => exact List.mem_cons_self ..
  | step _ hb => exact par_univ hb
theorem reach_trans {l : List Vd} {a b c : ByteArray} (h : Reach l a b) (k : Reach l b c) : Reach l a c := by
  induction k with
  | refl => exact h
  | step _ hb ih => exact .step ih hb
theorem reach_par {l : List Vd} {a b c : ByteArray} (hb : b ∈ par l a) (k : Reach l b c) : Reach l a c := reach_trans (.step .refl hb) k
/-- How many of u are not in the set. -/
def countM (u : List ByteArray) (A : ByteArray → Bool) : Nat := u.countP fun x => !A x
theorem countM_mono {u : List ByteArray} {A B : ByteArray → Bool} (h : ∀ x, A x = true → B x = true) : countM u B ≤ countM u A := by
  unfold countM
  refine List.countP_mono_left fun x _ hx => ?_
  cases ha : A x with
  | false => rfl
  | true => rw [h x ha] at hx; cases hx
theorem countM_lt : ∀ {u : List ByteArray} {A B : ByteArray → Bool}, (∀ x, A x = true → B x = true) → ∀ s ∈ u, A s = false → B s = true → countM u B < countM u A
  | [], _, _, _, _, hs, _, _ => by cases hs
  | y :: u, A, B, h, s, hs, ha, hb => by
    have hm := countM_mono (u := u) h
    unfold countM at *
    rw [List.countP_cons, List.countP_cons]
    rcases List.mem_cons.1 hs with rfl | hs
    · rw [ha, hb]
      simp
      omega
    · have ih := countM_lt (u := u) h s hs ha hb
      unfold countM at ih
      cases hy : A y with
      | true => rw [h y hy]; simp; exact ih
      | false => cases B y <;> simp <;> omega
def hasI (l : List Int) (n : Int) : Bool := decide (n ∈ l)
def servesB (l : List Vd) (have_ want : ByteArray) : Bool := hasS (allL l have_) want
theorem serves_iff {l : List Vd} {a b : ByteArray} : servesB l a b = true ↔ Reach l a b := by rw [servesB, hasS_iff, allL_mem]
end Go.BindLaw
