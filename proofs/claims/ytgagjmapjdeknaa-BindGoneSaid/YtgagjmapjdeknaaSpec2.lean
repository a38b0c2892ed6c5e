/- Bind: closures, scopes, offers as plain lists. No program in sight. -/
import Derived.Test.YtgagjmapjdeknaaSpec
import GoSem.Core.View
namespace Go.BindLaw

def moD : Mo := ⟨[], 0, 0, 0, false, [], []⟩
def moAt (ms : List Mo) (x : Int) : Mo := ms.getD x.toNat moD
theorem moAt_nat {ms : List Mo} {k : Nat} (h : k < ms.length) : moAt ms (k : Int) = ms[k] := by
  unfold moAt
  rw [Int.toNat_natCast, List.getD_eq_getElem?_getD, List.getElem?_eq_getElem h]
  rfl
/-- In the range of the modules. -/
def InR (ms : List Mo) (x : Int) : Prop := 0 ≤ x ∧ x < ms.length
instance (ms : List Mo) (x : Int) : Decidable (InR ms x) := by unfold InR; infer_instance
theorem InR.get {ms : List Mo} {x : Int} (h : InR ms x) : ∃ h' : x.toNat < ms.length, moAt ms x = ms[x.toNat] := by
  have h' : x.toNat < ms.length := by have := h.1; have := h.2; omega
  refine ⟨h', ?_⟩
  rw [← moAt_nat h', Int.toNat_of_nonneg h.1]

/-! ### Closures -/
def addN1 (n : Nat) (out : List Int) (x : Int) : List Int := if (0 ≤ x ∧ x < n) ∧ x ∉ out then out ++ [x] else out
def addN (n : Nat) (out xs : List Int) : List Int := xs.foldl (addN1 n) out
def cloTo (ms : List Mo) (k : Int) : Nat → List Int
  | 0 => [k]
  | i + 1 => match (cloTo ms k i)[i]? with
    | some x => addN ms.length (cloTo ms k i) (moAt ms x).needs
    | none => cloTo ms k i
def cloL (ms : List Mo) (k : Int) : List Int := if InR ms k then cloTo ms k ms.length else []
theorem addN1_mem (n : Nat) (out : List Int) (x y : Int) : y ∈ addN1 n out x ↔ y ∈ out ∨ (y = x ∧ 0 ≤ x ∧ x < n) := by
  unfold addN1
  split
  · rename_i h
    rw [List.mem_append, List.mem_singleton]
    constructor
    · rintro (h' | h')
      · exact .inl h'
      · exact .inr ⟨h', h.1⟩
    · rintro (h' | h')
      · exact .inl h'
      · exact .inr h'.1
  · rename_i h
    constructor
    · exact .inl
    · rintro (h' | ⟨rfl, h'⟩)
      · exact h'
      · by_cases hy : y ∈ out
        · exact hy
        · exact absurd ⟨h', hy⟩ h
theorem addN_mem (n : Nat) : ∀ (xs out : List Int) (y : Int), y ∈ addN n out xs ↔ y ∈ out ∨ (y ∈ xs ∧ 0 ≤ y ∧ y < n)
  | [], out, y => by simp [addN]
  | x :: xs, out, y => by
    show y ∈ addN n (addN1 n out x) xs ↔ _
    rw [addN_mem n xs, addN1_mem, List.mem_cons]
    constructor
    · rintro ((h | ⟨rfl, h⟩) | ⟨h, h2⟩)
      · exact .inl h
      · exact .inr ⟨.inl rfl, h⟩
      · exact .inr ⟨.inr h, h2⟩
    · rintro (h | ⟨rfl | h, h2⟩)
      · exact .inl (.inl h)
      · exact .inl (.inr ⟨rfl, h2⟩)
      · exact .inr ⟨h, h2⟩
theorem addN1_nodup {n : Nat} {out : List Int} (h : out.Nodup) (x : Int) : (addN1 n out x).Nodup := by
  unfold addN1
  split
  · rename_i hh
    rw [List.nodup_append]
    refine ⟨h, by simp, fun a ha b hb => ?_⟩
    rw [List.mem_singleton] at hb
    subst hb
    intro e
    subst e
    exact hh.2 ha
  · exact h
theorem addN_nodup {n : Nat} : ∀ (xs out : List Int), out.Nodup → (addN n out xs).Nodup
  | [], _, h => h
  | x :: xs, _, h => addN_nodup xs _ (addN1_nodup h x)
theorem addN1_pre (n : Nat) (out : List Int) (x : Int) : out <+: addN1 n out x := by
  unfold addN1
  split
  · exact List.prefix_append _ _
  · exact List.prefix_refl _
theorem addN_pre (n : Nat) : ∀ (xs out : List Int), out <+: addN n out xs
  | [], _ => List.prefix_refl _
  | x :: xs, out => (addN1_pre n out x).trans (addN_pre n xs _)
theorem addN_take (n : Nat) (out xs : List Int) {j : Nat} (h : j < xs.length) : addN n out (xs.take (j + 1)) = addN1 n (addN n out (xs.take j)) xs[j] := by
  unfold addN
  rw [List.take_succ_eq_append_getElem h, List.foldl_append]
  rfl
theorem cloTo_in {ms : List Mo} {k : Int} (hk : InR ms k) : ∀ i x, x ∈ cloTo ms k i → InR ms x
  | 0, x, h => by
    rw [cloTo, List.mem_singleton] at h
    rw [h]
    exact hk
  | i + 1, x, h => by
    have ih := cloTo_in hk i x
    simp only [cloTo] at h
    split at h
    · rcases (addN_mem _ _ _ _).1 h with h | h
      · exact ih h
      · exact h.2
    · exact ih h
theorem cloTo_nodup (ms : List Mo) (k : Int) : ∀ i, (cloTo ms k i).Nodup
  | 0 => by simp [cloTo]
  | i + 1 => by
    have ih := cloTo_nodup ms k i
    simp only [cloTo]
    split
    · exact addN_nodup _ _ ih
    · exact ih
theorem len_of_in {ms : List Mo} {l : List Int} (hn : l.Nodup) (h : ∀ x ∈ l, InR ms x) : l.length ≤ ms.length := by
  have := nodup_len l ((List.range ms.length).map Int.ofNat) hn fun x hx => by
    have h1 := h x hx
    refine List.mem_map.2 ⟨x.toNat, ?_, ?_⟩
    · rw [List.mem_range]; have := h1.1; have := h1.2; omega
    · exact Int.toNat_of_nonneg h1.1
  simpa using this
theorem cloTo_len {ms : List Mo} {k : Int} (hk : InR ms k) (i : Nat) : (cloTo ms k i).length ≤ ms.length := len_of_in (cloTo_nodup ms k i) (cloTo_in hk i)
theorem addN_in {ms : List Mo} {k : Int} (hk : InR ms k) (i : Nat) (xs : List Int) : ∀ x ∈ addN ms.length (cloTo ms k i) xs, InR ms x := fun x hx => by
  rcases (addN_mem _ _ _ _).1 hx with hx | hx
  · exact cloTo_in hk i x hx
  · exact hx.2
theorem addN_len {ms : List Mo} {k : Int} (hk : InR ms k) (i : Nat) (xs : List Int) : (addN ms.length (cloTo ms k i) xs).length ≤ ms.length :=
  len_of_in (addN_nodup _ _ (cloTo_nodup ms k i)) (addN_in hk i xs)
theorem cloTo_pre (ms : List Mo) (k : Int) (i : Nat) : cloTo ms k i <+: cloTo ms k (i + 1) := by
  simp only [cloTo]
  split
  · exact addN_pre _ _ _
  · exact List.prefix_refl _
theorem cloTo_pre_le (ms : List Mo) (k : Int) {i : Nat} : ∀ {j : Nat}, i ≤ j → cloTo ms k i <+: cloTo ms k j
  | 0, h => by rw [Nat.le_zero.1 h]; exact List.prefix_refl _
  | j + 1, h => by
    rcases Nat.lt_or_eq_of_le h with h | rfl
    · exact (cloTo_pre_le ms k (Nat.le_of_lt_succ h)).trans (cloTo_pre ms k j)
    · exact List.prefix_refl _
theorem cloTo_next {ms : List Mo} {k : Int} {i : Nat} (h : i < (cloTo ms k i).length) : cloTo ms k (i + 1) = addN ms.length (cloTo ms k i) (moAt ms (cloTo ms k i)[i]).needs := by
  rw [cloTo, List.getElem?_eq_getElem h]
theorem cloTo_stop {ms : List Mo} {k : Int} {i : Nat} (h : (cloTo ms k i).length ≤ i) : ∀ m, cloTo ms k (i + m) = cloTo ms k i
  | 0 => rfl
  | m + 1 => by
    have ih := cloTo_stop h m
    rw [show i + (m + 1) = (i + m) + 1 from rfl, cloTo, ih, List.getElem?_eq_none (by omega)]
theorem cloL_of {ms : List Mo} {k : Int} (hk : InR ms k) {i : Nat} (h : (cloTo ms k i).length ≤ i) (h2 : i ≤ (cloTo ms k i).length) : cloL ms k = cloTo ms k i := by
  have hl := cloTo_len hk i
  have := cloTo_stop h (ms.length - i)
  rw [show i + (ms.length - i) = ms.length by omega] at this
  rw [cloL, if_pos hk]
  exact this
theorem cloL_in {ms : List Mo} {k : Int} : ∀ x ∈ cloL ms k, InR ms x := fun x hx => by
  unfold cloL at hx
  split at hx
  · exact cloTo_in (by assumption) _ x hx
  · cases hx
theorem cloL_get {ms : List Mo} {k : Int} (hk : InR ms k) {i : Nat} (h : i < (cloTo ms k i).length) : ∃ h' : i < (cloL ms k).length, (cloL ms k)[i] = (cloTo ms k i)[i] := by
  have hl := cloTo_len hk i
  have hp := cloTo_pre_le ms k (i := i) (j := ms.length) (by omega)
  rw [cloL, if_pos hk]
  exact ⟨Nat.lt_of_lt_of_le h hp.length_le, (hp.getElem h).symm⟩
/-- The closure is closed. -/
theorem cloTo_closed (ms : List Mo) (k : Int) : ∀ i j (h : j < (cloTo ms k i).length), j < i → ∀ p ∈ (moAt ms (cloTo ms k i)[j]).needs, InR ms p → p ∈ cloTo ms k i
  | 0, j, _, h, _, _, _ => absurd h (Nat.not_lt_zero j)
  | i + 1, j, h, hj, p, hp, hr => by
    have hpre := cloTo_pre ms k i
    by_cases hl : j < (cloTo ms k i).length
    · have he : (cloTo ms k (i + 1))[j] = (cloTo ms k i)[j] := (hpre.getElem hl).symm
      rw [he] at hp
      rcases Nat.lt_or_eq_of_le (Nat.le_of_lt_succ hj) with hj | rfl
      · exact hpre.subset (cloTo_closed ms k i j hl hj p hp hr)
      · simp only [cloTo, List.getElem?_eq_getElem hl]
        exact (addN_mem _ _ _ _).2 (.inr ⟨hp, hr⟩)
    · simp only [cloTo, List.getElem?_eq_none (show (cloTo ms k i).length ≤ i by omega)] at h
      exact absurd h hl
theorem cloL_closed {ms : List Mo} {k x : Int} (hx : x ∈ cloL ms k) {p : Int} (hp : p ∈ (moAt ms x).needs) (hr : InR ms p) : p ∈ cloL ms k := by
  unfold cloL at hx ⊢
  split at hx
  · rename_i hk
    rw [if_pos hk]
    obtain ⟨j, hj, rfl⟩ := List.getElem_of_mem hx
    exact cloTo_closed ms k _ j hj (Nat.lt_of_lt_of_le hj (cloTo_len hk _)) p hp hr
  · cases hx
theorem cloL_root {ms : List Mo} {k : Int} (hk : InR ms k) : k ∈ cloL ms k := by
  rw [cloL, if_pos hk]
  exact (cloTo_pre_le ms k (Nat.zero_le _)).subset (by simp [cloTo])

/-! ### Scopes -/
def isMain (y : Mo) : Bool := (y.space == 0) && (y.root == 0)
def mainTo (ms : List Mo) : Nat → List Int
  | 0 => []
  | k + 1 => if isMain (moAt ms k) = true then mainTo ms k ++ [(k : Int)] else mainTo ms k
def mainL (ms : List Mo) : List Int := mainTo ms ms.length
/-- A module that has a closure of its own. -/
def hasClo (x : Mo) : Bool := (x.space != 0) || (x.root != 0)
def cand1 (ms : List Mo) (x : Mo) : List Int := if x.space = 0 then mainL ms else []
def cand2 (ms : List Mo) (x : Mo) : List Int := if hasClo x = true then cloL ms x.root else []
def candL (ms : List Mo) (x : Mo) : List Int := cand1 ms x ++ cand2 ms x
theorem mainTo_mem (ms : List Mo) : ∀ n (x : Int), x ∈ mainTo ms n ↔ ∃ k : Nat, k < n ∧ x = k ∧ isMain (moAt ms k) = true
  | 0, x => by simp [mainTo]
  | n + 1, x => by
    rw [mainTo]
    split
    · rename_i h
      rw [List.mem_append, mainTo_mem ms n x, List.mem_singleton]
      constructor
      · rintro (⟨k, hk, hx, hm⟩ | rfl)
        · exact ⟨k, by omega, hx, hm⟩
        · exact ⟨n, by omega, rfl, h⟩
      · rintro ⟨k, hk, hx, hm⟩
        rcases Nat.lt_or_eq_of_le (Nat.le_of_lt_succ hk) with hk | rfl
        · exact .inl ⟨k, hk, hx, hm⟩
        · exact .inr hx
    · rename_i h
      rw [mainTo_mem ms n x]
      constructor
      · rintro ⟨k, hk, hx, hm⟩
        exact ⟨k, by omega, hx, hm⟩
      · rintro ⟨k, hk, hx, hm⟩
        rcases Nat.lt_or_eq_of_le (Nat.le_of_lt_succ hk) with hk | rfl
        · exact ⟨k, hk, hx, hm⟩
        · exact absurd hm h
theorem candL_in {ms : List Mo} {x : Mo} : ∀ y ∈ candL ms x, InR ms y := fun y hy => by
  rcases List.mem_append.1 hy with hy | hy
  · unfold cand1 at hy
    split at hy
    · obtain ⟨k, hk, rfl, _⟩ := (mainTo_mem ms _ y).1 hy
      exact ⟨by omega, by omega⟩
    · cases hy
  · unfold cand2 at hy
    split at hy
    · exact cloL_in y hy
    · cases hy
theorem mainTo_pre (ms : List Mo) (k : Nat) : mainTo ms k <+: mainTo ms (k + 1) := by
  rw [mainTo]
  split
  · exact List.prefix_append _ _
  · exact List.prefix_refl _
theorem mainTo_pre_le (ms : List Mo) {i : Nat} : ∀ {j : Nat}, i ≤ j → mainTo ms i <+: mainTo ms j
  | 0, h => by rw [Nat.le_zero.1 h]; exact List.prefix_refl _
  | j + 1, h => by
    rcases Nat.lt_or_eq_of_le h with h | rfl
    · exact (mainTo_pre_le ms (Nat.le_of_lt_succ h)).trans (mainTo_pre ms j)
    · exact List.prefix_refl _
theorem cand_get {ms : List Mo} {x : Mo} (hx : x.space = 0) {k : Nat} (hk : k < ms.length) (hm : isMain (moAt ms k) = true) : ∃ h : (mainTo ms k).length < (candL ms x).length, (candL ms x)[(mainTo ms k).length] = (k : Int) := by
  have h1 : mainTo ms k ++ [(k : Int)] <+: candL ms x := by
    have h2 : mainTo ms (k + 1) = mainTo ms k ++ [(k : Int)] := by rw [mainTo, if_pos hm]
    rw [← h2, candL, cand1, if_pos hx, mainL]
    exact (mainTo_pre_le ms hk).trans (List.prefix_append _ _)
  have hl : (mainTo ms k).length < (mainTo ms k ++ [(k : Int)]).length := by simp
  refine ⟨Nat.lt_of_lt_of_le hl h1.length_le, ?_⟩
  rw [← h1.getElem hl]
  simp
/-- May be asked by x. -/
def may (x y : Mo) : Bool := decide (0 ≤ y.base) && (x.gone || !y.gone)
def keep1 (ms : List Mo) (x : Mo) (out : List Int) (c : Int) : List Int := if c ∉ out ∧ may x (moAt ms c) = true then out ++ [c] else out
def keepL (ms : List Mo) (x : Mo) (cs out : List Int) : List Int := cs.foldl (keep1 ms x) out
def scopeOf (ms : List Mo) (x : Mo) : List Int := keepL ms x (candL ms x) []
def scopeL (ms : List Mo) (m : Int) : List Int := if InR ms m then scopeOf ms (moAt ms m) else []
theorem keep1_mem (ms : List Mo) (x : Mo) (out : List Int) (c y : Int) : y ∈ keep1 ms x out c ↔ y ∈ out ∨ (y = c ∧ may x (moAt ms c) = true) := by
  unfold keep1
  split
  · rename_i h
    rw [List.mem_append, List.mem_singleton]
    constructor
    · rintro (h' | h')
      · exact .inl h'
      · exact .inr ⟨h', h.2⟩
    · rintro (h' | h')
      · exact .inl h'
      · exact .inr h'.1
  · rename_i h
    constructor
    · exact .inl
    · rintro (h' | ⟨rfl, h'⟩)
      · exact h'
      · by_cases hy : y ∈ out
        · exact hy
        · exact absurd ⟨hy, h'⟩ h
theorem keepL_mem (ms : List Mo) (x : Mo) : ∀ (cs out : List Int) (y : Int), y ∈ keepL ms x cs out ↔ y ∈ out ∨ (y ∈ cs ∧ may x (moAt ms y) = true)
  | [], out, y => by simp [keepL]
  | c :: cs, out, y => by
    show y ∈ keepL ms x cs (keep1 ms x out c) ↔ _
    rw [keepL_mem ms x cs, keep1_mem, List.mem_cons]
    constructor
    · rintro ((h | ⟨rfl, h⟩) | ⟨h, h2⟩)
      · exact .inl h
      · exact .inr ⟨.inl rfl, h⟩
      · exact .inr ⟨.inr h, h2⟩
    · rintro (h | ⟨rfl | h, h2⟩)
      · exact .inl (.inl h)
      · exact .inl (.inr ⟨rfl, h2⟩)
      · exact .inr ⟨h, h2⟩
theorem keep1_nodup {ms : List Mo} {x : Mo} {out : List Int} (h : out.Nodup) (c : Int) : (keep1 ms x out c).Nodup := by
  unfold keep1
  split
  · rename_i hh
    rw [List.nodup_append]
    refine ⟨h, by simp, fun a ha b hb => ?_⟩
    rw [List.mem_singleton] at hb
    subst hb
    intro e
    subst e
    exact hh.1 ha
  · exact h
theorem keepL_nodup {ms : List Mo} {x : Mo} : ∀ (cs out : List Int), out.Nodup → (keepL ms x cs out).Nodup
  | [], _, h => h
  | c :: cs, _, h => keepL_nodup cs _ (keep1_nodup h c)
theorem keepL_take (ms : List Mo) (x : Mo) (out cs : List Int) {j : Nat} (h : j < cs.length) : keepL ms x (cs.take (j + 1)) out = keep1 ms x (keepL ms x (cs.take j) out) cs[j] := by
  unfold keepL
  rw [List.take_succ_eq_append_getElem h, List.foldl_append]
  rfl
theorem keepL_append (ms : List Mo) (x : Mo) (a b out : List Int) : keepL ms x (a ++ b) out = keepL ms x b (keepL ms x a out) := List.foldl_append ..
theorem keep1_pre (ms : List Mo) (x : Mo) (out : List Int) (c : Int) : out <+: keep1 ms x out c := by
  unfold keep1
  split
  · exact List.prefix_append _ _
  · exact List.prefix_refl _
theorem keepL_pre (ms : List Mo) (x : Mo) : ∀ (cs out : List Int), out <+: keepL ms x cs out
  | [], _ => List.prefix_refl _
  | c :: cs, out => (keep1_pre ms x out c).trans (keepL_pre ms x cs _)
theorem keepL_pre_take (ms : List Mo) (x : Mo) (cs : List Int) (j : Nat) : keepL ms x (cs.take j) [] <+: keepL ms x cs [] := by
  have h : cs = cs.take j ++ cs.drop j := (List.take_append_drop j cs).symm
  conv => rhs; rw [h, keepL_append]
  exact keepL_pre ms x _ _
theorem scope_get {ms : List Mo} {m : Int} (hm : InR ms m) {j : Nat} (hj : j < (candL ms (moAt ms m)).length) {K : List Int} (hK : K = keepL ms (moAt ms m) ((candL ms (moAt ms m)).take j) [])
    (hk : keep1 ms (moAt ms m) K (candL ms (moAt ms m))[j] = K ++ [(candL ms (moAt ms m))[j]]) : ∃ h : K.length < (scopeL ms m).length, (scopeL ms m)[K.length] = (candL ms (moAt ms m))[j] := by
  have h1 : K ++ [(candL ms (moAt ms m))[j]] <+: scopeL ms m := by
    rw [← hk, hK, ← keepL_take _ _ _ _ hj, scopeL, if_pos hm]
    exact keepL_pre_take ms _ _ _
  have hl : K.length < (K ++ [(candL ms (moAt ms m))[j]]).length := by simp
  refine ⟨Nat.lt_of_lt_of_le hl h1.length_le, ?_⟩
  rw [← h1.getElem hl]
  simp
theorem keep_no {ms : List Mo} {x : Mo} {out : List Int} {c : Int} (h : ((decide (c ∈ out) || decide ((moAt ms c).base < 0)) || ((moAt ms c).gone && !x.gone)) = true) : keep1 ms x out c = out := by
  unfold keep1
  rw [if_neg]
  rintro ⟨h1, h2⟩
  unfold may at h2
  simp only [Bool.or_eq_true, Bool.and_eq_true, decide_eq_true_eq, Bool.not_eq_true'] at h h2
  rcases h with (h | h) | h
  · exact h1 h
  · omega
  · rw [h.1, h.2] at h2
    simp at h2
theorem keep_yes {ms : List Mo} {x : Mo} {out : List Int} {c : Int} (h : ((decide (c ∈ out) || decide ((moAt ms c).base < 0)) || ((moAt ms c).gone && !x.gone)) = false) : keep1 ms x out c = out ++ [c] := by
  unfold keep1
  rw [if_pos]
  simp only [Bool.or_eq_false_iff, Bool.and_eq_false_iff, decide_eq_false_iff_not, Bool.not_eq_false'] at h
  refine ⟨h.1.1, ?_⟩
  unfold may
  simp only [Bool.or_eq_true, Bool.and_eq_true, decide_eq_true_eq, Bool.not_eq_true']
  exact ⟨by have := h.1.2; omega, by rcases h.2 with h | h <;> simp [h]⟩
theorem keep_yes2 {ms : List Mo} {x : Mo} {out : List Int} {c : Int} (h : ((!hasI out c && decide (0 ≤ (moAt ms c).base)) && (x.gone || !(moAt ms c).gone)) = true) : keep1 ms x out c = out ++ [c] := by
  unfold keep1
  unfold hasI at h
  simp only [Bool.and_eq_true, Bool.not_eq_true', decide_eq_false_iff_not, decide_eq_true_eq] at h
  rw [if_pos]
  refine ⟨h.1.1, ?_⟩
  unfold may
  rw [Bool.and_eq_true, decide_eq_true_eq]
  exact ⟨h.1.2, h.2⟩
theorem keep_no2 {ms : List Mo} {x : Mo} {out : List Int} {c : Int} (h : ((!hasI out c && decide (0 ≤ (moAt ms c).base)) && (x.gone || !(moAt ms c).gone)) = false) : keep1 ms x out c = out := by
  unfold keep1
  rw [if_neg]
  rintro ⟨h1, h2⟩
  unfold may at h2
  unfold hasI at h
  rw [Bool.and_eq_true, decide_eq_true_eq] at h2
  rw [h2.2, Bool.and_true, decide_eq_true h2.1, Bool.and_true, decide_eq_false h1] at h
  cases h
theorem mainTo_len (ms : List Mo) : ∀ k, (mainTo ms k).length ≤ k
  | 0 => Nat.le_refl _
  | k + 1 => by
    have ih := mainTo_len ms k
    rw [mainTo]
    split
    · rw [List.length_append, List.length_singleton]; omega
    · omega
theorem scopeOf_in {ms : List Mo} {x : Mo} : ∀ y ∈ scopeOf ms x, InR ms y := fun y hy => by
  rcases (keepL_mem ms x _ _ y).1 hy with hy | hy
  · cases hy
  · exact candL_in y hy.1
theorem scopeL_in {ms : List Mo} {m : Int} : ∀ y ∈ scopeL ms m, InR ms y := fun y hy => by
  unfold scopeL at hy
  split at hy
  · exact scopeOf_in y hy
  · cases hy
theorem scopeOf_nodup (ms : List Mo) (x : Mo) : (scopeOf ms x).Nodup := keepL_nodup _ _ List.nodup_nil
theorem scopeL_nodup (ms : List Mo) (m : Int) : (scopeL ms m).Nodup := by
  unfold scopeL
  split
  · exact scopeOf_nodup ms _
  · exact List.nodup_nil
theorem scopeL_len (ms : List Mo) (m : Int) : (scopeL ms m).length ≤ ms.length := len_of_in (scopeL_nodup ms m) scopeL_in

theorem scopeOf_len (ms : List Mo) (x : Mo) : (scopeOf ms x).length ≤ ms.length := len_of_in (scopeOf_nodup ms x) scopeOf_in
theorem keepTo_len (ms : List Mo) (x : Mo) (j : Nat) : (keepL ms x ((candL ms x).take j) []).length ≤ ms.length := Nat.le_trans (keepL_pre_take ms x (candL ms x) j).length_le (scopeOf_len ms x)
theorem cloL_len (ms : List Mo) (k : Int) : (cloL ms k).length ≤ ms.length := by
  unfold cloL
  split
  · exact cloTo_len (by assumption) _
  · exact Nat.zero_le _

/-! ### Offers -/
def fits (vd : List Vd) (e : Ex) (want : ByteArray) : Bool := if want = ByteArray.empty then e.main || decide (e.version = ByteArray.empty) else servesB vd e.version want
def isOff (vd : List Vd) (name want : ByteArray) (e : Ex) : Bool := decide (e.name = name) && fits vd e want
def offX (y : Mo) (name want : ByteArray) : Option Nat := y.exports.findIdx? (isOff y.versions name want)
def offI (y : Mo) (name want : ByteArray) : Int := match offX y name want with
  | some i => i
  | none => -1
def whyTo (y : Mo) (name want : ByteArray) (k : Nat) : Int := if (y.exports.take k).any (fun e => decide (e.name = name)) = true then (if want = ByteArray.empty then 1 else 2) else 0
def whyX (y : Mo) (name want : ByteArray) : Int := whyTo y name want y.exports.length
theorem offX_hit {y : Mo} {name want : ByteArray} {k : Nat} (h : k < y.exports.length) (hk : isOff y.versions name want y.exports[k] = true) (hb : ∀ j (h : j < y.exports.length), j < k → isOff y.versions name want y.exports[j] = false) : offX y name want = some k := by
  unfold offX
  rw [List.findIdx?_eq_some_iff_getElem]
  exact ⟨h, hk, fun j hj => by rw [hb j (Nat.lt_trans hj h) hj]; exact Bool.false_ne_true⟩
theorem offX_miss {y : Mo} {name want : ByteArray} (hb : ∀ j (h : j < y.exports.length), isOff y.versions name want y.exports[j] = false) : offX y name want = none := by
  unfold offX
  rw [List.findIdx?_eq_none_iff]
  intro x hx
  obtain ⟨k, hk, rfl⟩ := List.getElem_of_mem hx
  exact hb k hk
theorem whyTo_next {y : Mo} {name want : ByteArray} {k : Nat} (h : k < y.exports.length) : whyTo y name want (k + 1) = if y.exports[k].name = name then (if want = ByteArray.empty then 1 else 2) else whyTo y name want k := by
  unfold whyTo
  rw [List.take_succ_eq_append_getElem h, List.any_append]
  by_cases hn : y.exports[k].name = name
  · simp [hn]
  · simp [hn]
/-- What the program's offers answers. -/
def oExp (y : Mo) (name want : ByteArray) : Int := match offX y name want with
  | some i => i
  | none => 0
def oOk (y : Mo) (name want : ByteArray) : Bool := (offX y name want).isSome
def oWhy (y : Mo) (name want : ByteArray) : Int := if oOk y name want = true then 0 else whyX y name want
theorem isOff_ne {vd : List Vd} {name want : ByteArray} {e : Ex} (h : e.name ≠ name) : isOff vd name want e = false := by simp [isOff, h]
theorem isOff_eq {vd : List Vd} {name want : ByteArray} {e : Ex} (h : e.name = name) : isOff vd name want e = fits vd e want := by simp [isOff, h]
/-- How many of a scope are asked in vain. -/
def isHit (ms : List Mo) (name want : ByteArray) (k : Int) : Bool := (offX (moAt ms k) name want).isSome
def hitN (ms : List Mo) (l : List Int) (name want : ByteArray) : Nat := l.findIdx (isHit ms name want)
def fMod (ms : List Mo) (l : List Int) (name want : ByteArray) : Int := (l[hitN ms l name want]?).getD 0
def fExp (ms : List Mo) (l : List Int) (name want : ByteArray) : Int := match l[hitN ms l name want]? with
  | some k => offI (moAt ms k) name want
  | none => 0
def fOk (ms : List Mo) (l : List Int) (name want : ByteArray) : Bool := decide (hitN ms l name want < l.length)
def whyL (ms : List Mo) (l : List Int) (name want : ByteArray) : List (Int × Int) := (l.take (hitN ms l name want)).map fun k => (k, whyX (moAt ms k) name want)
theorem hitN_hit {ms : List Mo} {l : List Int} {name want : ByteArray} {k : Nat} (h : k < l.length) (hk : isHit ms name want l[k] = true) (hb : ∀ j (h : j < l.length), j < k → isHit ms name want l[j] = false) : hitN ms l name want = k := by
  unfold hitN
  rw [List.findIdx_eq h]
  exact ⟨hk, fun j hj => hb j (Nat.lt_trans hj h) hj⟩
theorem hitN_miss {ms : List Mo} {l : List Int} {name want : ByteArray} (hb : ∀ j (h : j < l.length), isHit ms name want l[j] = false) : hitN ms l name want = l.length := by
  unfold hitN
  rw [List.findIdx_eq_length]
  intro x hx
  obtain ⟨k, hk, rfl⟩ := List.getElem_of_mem hx
  exact hb k hk
theorem hitN_le (ms : List Mo) (l : List Int) (name want : ByteArray) : hitN ms l name want ≤ l.length := List.findIdx_le_length
theorem fits2 (vd : List Vd) (e : Ex) (want : ByteArray) : fits vd e want = ((decide (want = ByteArray.empty) && (e.main || decide (e.version = ByteArray.empty))) || (!decide (want = ByteArray.empty) && servesB vd e.version want)) := by
  unfold fits
  by_cases h : want = ByteArray.empty
  · simp [h]
  · simp [h]
theorem offI_pos {y : Mo} {name want : ByteArray} (h : 0 ≤ offI y name want) : oOk y name want = true ∧ offI y name want = oExp y name want := by
  unfold offI at h ⊢
  unfold oOk oExp
  cases hx : offX y name want with
  | none => rw [hx] at h; simp at h
  | some i => exact ⟨rfl, rfl⟩
theorem offI_neg {y : Mo} {name want : ByteArray} (h : ¬ 0 ≤ offI y name want) : oOk y name want = false := by
  unfold offI at h
  unfold oOk
  cases hx : offX y name want with
  | none => rfl
  | some i => rw [hx] at h; simp only at h; omega
theorem f_hit {ms : List Mo} {l : List Int} {name want : ByteArray} {k : Nat} (h : k < l.length) (hk : oOk (moAt ms (l.getD k 0)) name want = true) (hb : ∀ j (h : j < l.length), j < k → isHit ms name want l[j] = false) :
    fMod ms l name want = l.getD k 0 ∧ fExp ms l name want = oExp (moAt ms (l.getD k 0)) name want ∧ fOk ms l name want = true ∧ whyL ms l name want = (l.take k).map fun k => (k, whyX (moAt ms k) name want) := by
  have hg : l.getD k 0 = l[k] := by simp [h]
  rw [hg] at hk ⊢
  have hn : hitN ms l name want = k := hitN_hit h hk hb
  refine ⟨by simp [fMod, hn, h], ?_, by simp [fOk, hn, h], by rw [whyL, hn]⟩
  unfold fExp
  rw [hn, List.getElem?_eq_getElem h]
  simp only [offI, oExp]
  unfold oOk at hk
  cases hx : offX (moAt ms l[k]) name want with
  | none => rw [hx] at hk; cases hk
  | some i => rfl
theorem f_miss {ms : List Mo} {l : List Int} {name want : ByteArray} (hb : ∀ j (h : j < l.length), isHit ms name want l[j] = false) :
    fMod ms l name want = 0 ∧ fExp ms l name want = 0 ∧ fOk ms l name want = false ∧ whyL ms l name want = l.map fun k => (k, whyX (moAt ms k) name want) := by
  have hn : hitN ms l name want = l.length := hitN_miss hb
  exact ⟨by simp [fMod, hn], by simp [fExp, hn], by simp [fOk, hn], by rw [whyL, hn, List.take_length]⟩
theorem noHit_next {ms : List Mo} {l : List Int} {name want : ByteArray} {k : Nat} (h : k < l.length) (hk : oOk (moAt ms (l.getD k 0)) name want = false) (hb : ∀ j (h : j < l.length), j < k → isHit ms name want l[j] = false) :
    ∀ j (h : j < l.length), j < k + 1 → isHit ms name want l[j] = false := fun j hj hk' => by
  rcases Nat.lt_or_eq_of_le (Nat.le_of_lt_succ hk') with hk' | rfl
  · exact hb j hj hk'
  · have hg : l.getD j 0 = l[j] := by simp [h]
    rw [hg] at hk
    exact hk
/-! ### Bounds -/
def okM (y : Mo) : Bool := ((decide (y.needs.length ≤ 8) && decide (y.exports.length ≤ 8)) && decide (y.versions.length ≤ 8)) && y.versions.all fun d => decide (d.parents.length ≤ 6)
def fewB (ms : List Mo) : Bool := decide (ms.length ≤ 8) && ms.all okM
theorem univ_le {y : Mo} (h : okM y = true) (s : ByteArray) : (univ y.versions s).length ≤ 1000 := by
  unfold okM at h
  simp only [Bool.and_eq_true, decide_eq_true_eq] at h
  have key : ∀ l : List Vd, l.all (fun d => decide (d.parents.length ≤ 6)) = true → (l.flatMap (·.parents)).length ≤ 6 * l.length := by
    intro l
    induction l with
    | nil => intro _; simp
    | cons d r ih =>
      intro h
      simp only [List.all_cons, Bool.and_eq_true, decide_eq_true_eq] at h
      have := ih h.2
      simp only [List.flatMap_cons, List.length_append, List.length_cons]
      omega
  have := key _ h.2
  unfold univ
  rw [List.length_cons]
  omega
theorem few_len {ms : List Mo} (h : fewB ms = true) : ms.length ≤ 1000 := by
  unfold fewB at h
  simp only [Bool.and_eq_true, decide_eq_true_eq] at h
  omega
theorem few_univ {ms : List Mo} (h : fewB ms = true) : ∀ x, InR ms x → ∀ s, (univ (moAt ms x).versions s).length ≤ 1000 := fun x hx s => by
  unfold fewB at h
  simp only [Bool.and_eq_true, decide_eq_true_eq] at h
  obtain ⟨h', he⟩ := hx.get
  rw [he]
  exact univ_le (List.all_eq_true.1 h.2 _ (List.getElem_mem h')) s
def addrX (ms : List Mo) (m x : Int) : Int := if InR ms m then (match (moAt ms m).exports[x.toNat]? with
  | some e => if 0 ≤ x then IntKind.i64.wrap ((moAt ms m).base + e.at_) else 0
  | none => 0) else 0
end Go.BindLaw
