/- Bind: what the laws say, of plain lists. No program in sight. -/
import Derived.Test.YtgagjmapjdeknaaSpec2
namespace Go.BindLaw

/-! ### Scope -/
def mayZ (ms : List Mo) (x : Mo) (z : Int) : Bool := may x (moAt ms z)
theorem mainTo_lt {ms : List Mo} {n : Nat} {x : Int} (h : x ∈ mainTo ms n) : x < n := by
  obtain ⟨k, hk, rfl, _⟩ := (mainTo_mem ms n x).1 h
  omega
/-- The part of a scope that was loaded with the program, up to k. -/
def keptTo (ms : List Mo) (x : Mo) (k : Nat) : List Int := keepL ms x (mainTo ms k) []
theorem kept_yes {ms : List Mo} {x : Mo} {k : Nat} (hm : isMain (moAt ms k) = true) (hy : may x (moAt ms k) = true) : keptTo ms x (k + 1) = keptTo ms x k ++ [(k : Int)] := by
  unfold keptTo
  rw [mainTo, if_pos hm, keepL_append]
  show keep1 ms x (keepL ms x (mainTo ms k) []) k = _
  unfold keep1
  rw [if_pos]
  refine ⟨fun h => ?_, hy⟩
  rcases (keepL_mem ms x _ _ _).1 h with h | h
  · cases h
  · have := mainTo_lt h.1
    omega
theorem kept_no {ms : List Mo} {x : Mo} {k : Nat} (h : ¬ (isMain (moAt ms k) = true ∧ may x (moAt ms k) = true)) : keptTo ms x (k + 1) = keptTo ms x k := by
  unfold keptTo
  rw [mainTo]
  split
  · rename_i hm
    rw [keepL_append]
    show keep1 ms x (keepL ms x (mainTo ms k) []) k = _
    unfold keep1
    rw [if_neg]
    rintro ⟨_, h2⟩
    exact h ⟨hm, h2⟩
  · rfl
theorem keptTo_pre (ms : List Mo) (x : Mo) {i : Nat} : ∀ {j : Nat}, i ≤ j → keptTo ms x i <+: keptTo ms x j
  | 0, h => by rw [Nat.le_zero.1 h]; exact List.prefix_refl _
  | j + 1, h => by
    rcases Nat.lt_or_eq_of_le h with h | rfl
    · refine (keptTo_pre ms x (Nat.le_of_lt_succ h)).trans ?_
      by_cases hc : isMain (moAt ms j) = true ∧ may x (moAt ms j) = true
      · rw [kept_yes hc.1 hc.2]
        exact List.prefix_append _ _
      · rw [kept_no hc]
        exact List.prefix_refl _
    · exact List.prefix_refl _
/-- How many of the first part are before k. -/
def nK (ms : List Mo) (x : Mo) : Nat → Nat
  | 0 => 0
  | k + 1 => if x.space = 0 then (keptTo ms x (k + 1)).length else 0
theorem nK_eq {ms : List Mo} {x : Mo} (h : x.space = 0) : ∀ k, nK ms x k = (keptTo ms x k).length
  | 0 => rfl
  | k + 1 => by rw [nK, if_pos h]
theorem nK_not {ms : List Mo} {x : Mo} (h : x.space ≠ 0) : ∀ k, nK ms x k = 0
  | 0 => rfl
  | k + 1 => by rw [nK, if_neg h]
/-- The first part of a scope. -/
def headOf (ms : List Mo) (x : Mo) : List Int := keepL ms x (cand1 ms x) []
theorem scope_split (ms : List Mo) (x : Mo) : scopeOf ms x = keepL ms x (cand2 ms x) (headOf ms x) := by rw [scopeOf, candL, keepL_append]; rfl
theorem head_pre (ms : List Mo) (x : Mo) : headOf ms x <+: scopeOf ms x := by
  rw [scope_split]
  exact keepL_pre ms x _ _
theorem head_main {ms : List Mo} {x : Mo} (h : x.space = 0) : headOf ms x = keptTo ms x ms.length := by rw [headOf, cand1, if_pos h, keptTo, mainL]
theorem head_not {ms : List Mo} {x : Mo} (h : x.space ≠ 0) : headOf ms x = [] := by rw [headOf, cand1, if_neg h]; rfl
/-- The next module of the first part stands where the count says. -/
theorem scope_main {ms : List Mo} {x : Mo} (h : x.space = 0) {k : Nat} (hk : k < ms.length) (hm : isMain (moAt ms k) = true) (hy : may x (moAt ms k) = true) : ∃ h' : (keptTo ms x k).length < (scopeOf ms x).length, (scopeOf ms x)[(keptTo ms x k).length] = (k : Int) := by
  have h1 : keptTo ms x k ++ [(k : Int)] <+: scopeOf ms x := by
    rw [← kept_yes hm hy]
    refine (keptTo_pre ms x hk).trans ?_
    rw [← head_main h]
    exact head_pre ms x
  have hl : (keptTo ms x k).length < (keptTo ms x k ++ [(k : Int)]).length := by simp
  refine ⟨Nat.lt_of_lt_of_le hl h1.length_le, ?_⟩
  rw [← h1.getElem hl]
  simp
theorem scope_only {ms : List Mo} {x : Mo} (h : hasClo x = false) : scopeOf ms x = headOf ms x := by
  rw [scope_split, cand2, if_neg (by rw [h]; exact Bool.false_ne_true)]
  rfl
theorem keepL_tail (ms : List Mo) (x : Mo) : ∀ (cs out : List Int) (i : Nat) (h : i < (keepL ms x cs out).length), out.length ≤ i → (keepL ms x cs out)[i] ∈ cs
  | [], out, i, h, hi => absurd h (by show ¬ i < out.length; omega)
  | c :: cs, out, i, h, hi => by
    have h2 : i < (keepL ms x cs (keep1 ms x out c)).length := h
    show (keepL ms x cs (keep1 ms x out c))[i] ∈ c :: cs
    by_cases hl : (keep1 ms x out c).length ≤ i
    · exact List.mem_cons_of_mem _ (keepL_tail ms x cs _ i h2 hl)
    · have hp := keepL_pre ms x cs (keep1 ms x out c)
      rw [← hp.getElem (show i < (keep1 ms x out c).length by omega)]
      have hk : keep1 ms x out c = out ++ [c] := by
        unfold keep1 at hl ⊢
        split
        · rfl
        · rename_i hn
          rw [if_neg hn] at hl
          omega
      have hi2 : i = out.length := by rw [hk] at hl; simp at hl; omega
      simp only [hk, hi2]
      simp
/-- What stands behind the first part is of the closure. -/
theorem scope_tail {ms : List Mo} {x : Mo} {i : Nat} (h : i < (scopeOf ms x).length) (hi : (headOf ms x).length ≤ i) : (scopeOf ms x)[i] ∈ cloL ms x.root := by
  have h2 : i < (keepL ms x (cand2 ms x) (headOf ms x)).length := by rw [← scope_split]; exact h
  have h3 := keepL_tail ms x (cand2 ms x) (headOf ms x) i h2 hi
  simp only [scope_split]
  unfold cand2 at h3 ⊢
  split at h3
  · rename_i hc
    simp only [hc, if_true]
    exact h3
  · cases h3
theorem scope_has {ms : List Mo} {x : Mo} {z : Int} (hc : hasClo x = true) (hz : z ∈ cloL ms x.root) (hm : may x (moAt ms z) = true) : z ∈ scopeOf ms x := by
  refine (keepL_mem ms x _ _ z).2 (.inr ⟨List.mem_append.2 (.inr ?_), hm⟩)
  rw [cand2, if_pos hc]
  exact hz
theorem scope_may {ms : List Mo} {x : Mo} {z : Int} (h : z ∈ scopeOf ms x) : may x (moAt ms z) = true := by
  rcases (keepL_mem ms x _ _ z).1 h with h | h
  · cases h
  · exact h.2
theorem scopeOf_eq {ms : List Mo} {m : Int} (h : InR ms m) : scopeL ms m = scopeOf ms (moAt ms m) := by rw [scopeL, if_pos h]
theorem nodup_take {l : List Int} (hn : l.Nodup) {i : Nat} (h : i < l.length) : hasI (l.take i) l[i] = false := by
  unfold hasI
  rw [decide_eq_false_iff_not]
  intro hm
  obtain ⟨j, hj, he⟩ := List.getElem_of_mem hm
  rw [List.getElem_take] at he
  have hj2 : j < i := Nat.lt_of_lt_of_le hj (by rw [List.length_take]; exact Nat.min_le_left _ _)
  exact List.pairwise_iff_getElem.1 hn j i (by omega) h hj2 he

/-! ### First -/
theorem hit_here {ms : List Mo} {l : List Int} {name want : ByteArray} (h : hitN ms l name want < l.length) : isHit ms name want l[hitN ms l name want] = true := List.findIdx_getElem (w := h)
theorem hit_before {ms : List Mo} {l : List Int} {name want : ByteArray} {j : Nat} (h : j < l.length) (hj : j < hitN ms l name want) : isHit ms name want l[j] = false := by
  have := List.not_of_lt_findIdx (p := isHit ms name want) (xs := l) (i := j) hj
  simpa using this
theorem isHit_off {ms : List Mo} {name want : ByteArray} {k : Int} : isHit ms name want k = decide (0 ≤ offI (moAt ms k) name want) := by
  unfold isHit offI
  cases hx : offX (moAt ms k) name want with
  | none => simp
  | some i => simp

theorem whyL_len (ms : List Mo) (l : List Int) (name want : ByteArray) : (whyL ms l name want).length = hitN ms l name want := by
  rw [whyL, List.length_map, List.length_take]
  exact Nat.min_eq_left (hitN_le ms l name want)
theorem whyL_mod {ms : List Mo} {l : List Int} {name want : ByteArray} {n : Nat} (h : n < (whyL ms l name want).length) (h2 : n < l.length) : (whyL ms l name want)[n].1 = l[n] := by
  simp [whyL]
/-- The law's loop goes on exactly to what is found. -/
theorem first_cond {ms : List Mo} {l : List Int} {name want : ByteArray} (hn : l.Nodup) {n : Nat} (h : n ≤ hitN ms l name want) :
    (decide ((n : Int) < l.length) && !(fOk ms l name want && (l.getD n 0 == fMod ms l name want))) = decide (n < hitN ms l name want) := by
  have hle := hitN_le ms l name want
  rcases Nat.lt_or_eq_of_le h with h | h
  · rw [decide_eq_true h, decide_eq_true (by omega), Bool.true_and]
    by_cases hl : hitN ms l name want < l.length
    · have e1 : fMod ms l name want = l[hitN ms l name want] := by simp [fMod, hl]
      have e2 : l.getD n 0 = l[n] := by simp [show n < l.length by omega]
      have hne : l[n] ≠ l[hitN ms l name want] := List.pairwise_iff_getElem.1 hn n _ (by omega) hl h
      rw [e1, e2, beq_false_of_ne hne, Bool.and_false]
      rfl
    · have : fOk ms l name want = false := decide_eq_false hl
      rw [this]
      rfl
  · subst h
    rw [decide_eq_false (Nat.lt_irrefl _)]
    by_cases hl : hitN ms l name want < l.length
    · have e1 : fMod ms l name want = l[hitN ms l name want] := by simp [fMod, hl]
      have e2 : l.getD (hitN ms l name want) 0 = l[hitN ms l name want] := by simp [hl]
      have e3 : fOk ms l name want = true := decide_eq_true hl
      rw [e1, e2, e3, beq_self_eq_true]
      simp
    · rw [decide_eq_false (by omega), Bool.false_and]
/-- What is found. -/
theorem found {ms : List Mo} {l : List Int} {name want : ByteArray} (hl : ∀ x ∈ l, InR ms x) (h : fOk ms l name want = true) : ∃ i : Nat, InR ms (fMod ms l name want) ∧ fExp ms l name want = (i : Int) ∧ offI (moAt ms (fMod ms l name want)) name want = (i : Int) ∧ i < (moAt ms (fMod ms l name want)).exports.length := by
  have hh := of_decide_eq_true h
  have e1 : fMod ms l name want = l[hitN ms l name want] := by simp [fMod, hh]
  have h1 := hit_here hh
  rw [← e1] at h1
  have hr : InR ms (fMod ms l name want) := by rw [e1]; exact hl _ (List.getElem_mem hh)
  have e2 : fExp ms l name want = offI (moAt ms (fMod ms l name want)) name want := by
    unfold fExp
    rw [List.getElem?_eq_getElem hh, e1]
  unfold isHit at h1
  unfold offI at e2 ⊢
  cases hx : offX (moAt ms (fMod ms l name want)) name want with
  | none => rw [hx] at h1; cases h1
  | some i =>
    rw [hx] at e2
    refine ⟨i, hr, e2, rfl, ?_⟩
    unfold offX at hx
    exact (List.findIdx?_eq_some_iff_getElem.1 hx).1
theorem addr_found {ms : List Mo} {m : Int} (hm : InR ms m) {i : Nat} (hi : i < (moAt ms m).exports.length) : addrX ms m (i : Int) = IntKind.i64.wrap ((moAt ms m).base + (moAt ms m).exports[i].at_) := by
  rw [addrX, if_pos hm, Int.toNat_natCast, List.getElem?_eq_getElem hi]
  simp
theorem notFound {ms : List Mo} {l : List Int} {name want : ByteArray} (h : fOk ms l name want = false) : fMod ms l name want = 0 ∧ fExp ms l name want = 0 := by
  have hh := of_decide_eq_false h
  have e : l[hitN ms l name want]? = none := List.getElem?_eq_none (by omega)
  exact ⟨by rw [fMod, e]; rfl, by rw [fExp, e]⟩

/-! ### Later -/
theorem moAt_snoc {ms : List Mo} {y : Mo} {k : Int} (h : InR ms k) : moAt (ms ++ [y]) k = moAt ms k := by
  obtain ⟨h1, e1⟩ := h.get
  rw [e1]
  unfold moAt
  rw [List.getD_eq_getElem?_getD, List.getElem?_append_left h1, List.getElem?_eq_getElem h1]
  rfl
theorem InR.snoc {ms : List Mo} {y : Mo} {k : Int} (h : InR ms k) : InR (ms ++ [y]) k := by
  unfold InR at h ⊢
  rw [List.length_append, List.length_singleton]
  omega
theorem addN_snoc (n : Nat) : ∀ (xs out : List Int), (n : Int) ∉ xs → addN (n + 1) out xs = addN n out xs
  | [], _, _ => rfl
  | x :: xs, out, h => by
    have hx : x ≠ (n : Int) := fun e => h (e ▸ List.mem_cons_self ..)
    have e1 : addN1 (n + 1) out x = addN1 n out x := by
      unfold addN1
      have : ((0 ≤ x ∧ x < ((n + 1 : Nat) : Int)) ∧ x ∉ out) ↔ ((0 ≤ x ∧ x < (n : Int)) ∧ x ∉ out) := by
        constructor
        · rintro ⟨⟨a, b⟩, c⟩; exact ⟨⟨a, by omega⟩, c⟩
        · rintro ⟨⟨a, b⟩, c⟩; exact ⟨⟨a, by omega⟩, c⟩
      simp only [this]
    show addN (n + 1) (addN1 (n + 1) out x) xs = addN n (addN1 n out x) xs
    rw [e1]
    exact addN_snoc n xs _ (fun hm => h (List.mem_cons_of_mem _ hm))
/-- None of the others needs or has as its root the one behind them. -/
def noneTo (ms : List Mo) : Prop := ∀ i (h : i < ms.length), ms[i].root ≠ (ms.length : Int) ∧ (ms.length : Int) ∉ ms[i].needs
theorem noneTo.at {ms : List Mo} (h : noneTo ms) {k : Int} (hk : InR ms k) : (moAt ms k).root ≠ (ms.length : Int) ∧ (ms.length : Int) ∉ (moAt ms k).needs := by
  obtain ⟨h1, e1⟩ := hk.get
  rw [e1]
  exact h _ h1
theorem cloTo_snoc {ms : List Mo} {y : Mo} (hn : noneTo ms) {k : Int} (hk : InR ms k) : ∀ i, cloTo (ms ++ [y]) k i = cloTo ms k i
  | 0 => rfl
  | i + 1 => by
    have ih := cloTo_snoc (y := y) hn hk i
    simp only [cloTo, ih]
    cases hg : (cloTo ms k i)[i]? with
    | none => rfl
    | some x =>
      have hx : InR ms x := cloTo_in hk i x (List.mem_of_getElem? hg)
      simp only [moAt_snoc hx, List.length_append, List.length_singleton]
      exact addN_snoc _ _ _ (hn.at hx).2
theorem cloL_snoc {ms : List Mo} {y : Mo} (hn : noneTo ms) {k : Int} (hk : k ≠ (ms.length : Int)) : cloL (ms ++ [y]) k = cloL ms k := by
  by_cases h : InR ms k
  · rw [cloL, if_pos h.snoc, cloL, if_pos h, cloTo_snoc hn h, List.length_append, List.length_singleton]
    exact cloTo_stop (cloTo_len h _) 1
  · rw [cloL, if_neg, cloL, if_neg h]
    intro h2
    apply h
    unfold InR at h2 ⊢
    rw [List.length_append, List.length_singleton] at h2
    omega
theorem mainTo_snoc {ms : List Mo} {y : Mo} : ∀ k, k ≤ ms.length → mainTo (ms ++ [y]) k = mainTo ms k
  | 0, _ => rfl
  | k + 1, h => by
    have hk : InR ms (k : Int) := ⟨by omega, by omega⟩
    rw [mainTo, mainTo, mainTo_snoc k (by omega), moAt_snoc hk]
theorem moAt_last {ms : List Mo} {y : Mo} : moAt (ms ++ [y]) (ms.length : Int) = y := by
  rw [moAt_nat (by simp)]
  simp
theorem mainL_snoc {ms : List Mo} {y : Mo} (hy : isMain y = false) : mainL (ms ++ [y]) = mainL ms := by
  unfold mainL
  rw [List.length_append, List.length_singleton, mainTo, moAt_last, if_neg (by rw [hy]; exact Bool.false_ne_true), mainTo_snoc _ (Nat.le_refl _)]
theorem keepL_snoc {ms : List Mo} {y x : Mo} : ∀ (cs out : List Int), (∀ c ∈ cs, InR ms c) → keepL (ms ++ [y]) x cs out = keepL ms x cs out
  | [], _, _ => rfl
  | c :: cs, out, h => by
    have e1 : keep1 (ms ++ [y]) x out c = keep1 ms x out c := by
      unfold keep1
      rw [moAt_snoc (h c (List.mem_cons_self ..))]
    show keepL (ms ++ [y]) x cs (keep1 (ms ++ [y]) x out c) = keepL ms x cs (keep1 ms x out c)
    rw [e1]
    exact keepL_snoc cs _ fun c hc => h c (List.mem_cons_of_mem _ hc)
theorem scope_snoc {ms : List Mo} {y : Mo} (hn : noneTo ms) (hy : isMain y = false) {m : Int} (hm : InR ms m) : scopeL (ms ++ [y]) m = scopeL ms m := by
  rw [scopeOf_eq hm.snoc, scopeOf_eq hm, moAt_snoc hm]
  have hc : candL (ms ++ [y]) (moAt ms m) = candL ms (moAt ms m) := by
    unfold candL cand1 cand2
    rw [mainL_snoc hy, cloL_snoc hn (hn.at hm).1]
  unfold scopeOf
  rw [hc]
  exact keepL_snoc _ _ candL_in
theorem hit_snoc {ms : List Mo} {y : Mo} {l : List Int} (hl : ∀ x ∈ l, InR ms x) (name want : ByteArray) : hitN (ms ++ [y]) l name want = hitN ms l name want := by
  unfold hitN
  have key : ∀ l : List Int, (∀ x ∈ l, InR ms x) → l.findIdx (isHit (ms ++ [y]) name want) = l.findIdx (isHit ms name want) := by
    intro l
    induction l with
    | nil => intro _; rfl
    | cons a r ih =>
      intro h
      rw [List.findIdx_cons, List.findIdx_cons, ih fun x hx => h x (List.mem_cons_of_mem _ hx)]
      have : isHit (ms ++ [y]) name want a = isHit ms name want a := by
        unfold isHit
        rw [moAt_snoc (h a (List.mem_cons_self ..))]
      rw [this]
  exact key l hl
theorem find_snoc {ms : List Mo} {y : Mo} {l : List Int} (hl : ∀ x ∈ l, InR ms x) (name want : ByteArray) :
    fMod (ms ++ [y]) l name want = fMod ms l name want ∧ fExp (ms ++ [y]) l name want = fExp ms l name want ∧ fOk (ms ++ [y]) l name want = fOk ms l name want := by
  have h := hit_snoc (y := y) hl name want
  refine ⟨by rw [fMod, fMod, h], ?_, by rw [fOk, fOk, h]⟩
  unfold fExp
  rw [h]
  cases hg : l[hitN ms l name want]? with
  | none => rfl
  | some k => simp only [moAt_snoc (hl k (List.mem_of_getElem? hg))]

/-! ### Gone -/
def setGone (ms : List Mo) (g : Nat) : List Mo := ms.modify g fun y => { y with gone := true }
theorem setGone_len (ms : List Mo) (g : Nat) : (setGone ms g).length = ms.length := by simp [setGone]
theorem InR_gone {ms : List Mo} {g : Nat} {k : Int} : InR (setGone ms g) k ↔ InR ms k := by unfold InR; rw [setGone_len]
theorem moAt_gone {ms : List Mo} {g : Nat} {k : Int} (h : InR ms k) : moAt (setGone ms g) k = if k = (g : Int) then { moAt ms k with gone := true } else moAt ms k := by
  obtain ⟨h1, e1⟩ := h.get
  have h0 := h.1
  have e3 : (setGone ms g)[k.toNat]? = some (if k = (g : Int) then { ms[k.toNat] with gone := true } else ms[k.toNat]) := by
    unfold setGone
    rw [List.getElem?_modify, List.getElem?_eq_getElem h1]
    by_cases hk : k = (g : Int)
    · have hg : g = k.toNat := by omega
      rw [if_pos hk]
      simp [hg]
    · have hg : ¬ g = k.toNat := by omega
      rw [if_neg hk]
      simp [hg]
  rw [e1]
  unfold moAt
  rw [List.getD_eq_getElem?_getD, e3]
  rfl
theorem gone_needs {ms : List Mo} {g : Nat} {k : Int} (h : InR ms k) : (moAt (setGone ms g) k).needs = (moAt ms k).needs := by rw [moAt_gone h]; split <;> rfl
theorem cloTo_gone {ms : List Mo} {g : Nat} {k : Int} (hk : InR ms k) : ∀ i, cloTo (setGone ms g) k i = cloTo ms k i
  | 0 => rfl
  | i + 1 => by
    have ih := cloTo_gone (g := g) hk i
    simp only [cloTo, ih]
    cases hg : (cloTo ms k i)[i]? with
    | none => rfl
    | some x =>
      have hx : InR ms x := cloTo_in hk i x (List.mem_of_getElem? hg)
      simp only [gone_needs hx, setGone_len]
theorem cloL_gone {ms : List Mo} {g : Nat} {k : Int} : cloL (setGone ms g) k = cloL ms k := by
  by_cases h : InR ms k
  · rw [cloL, if_pos (InR_gone.2 h), cloL, if_pos h, cloTo_gone h, setGone_len]
  · rw [cloL, if_neg (fun h2 => h (InR_gone.1 h2)), cloL, if_neg h]
theorem mainTo_gone {ms : List Mo} {g : Nat} : ∀ k, k ≤ ms.length → mainTo (setGone ms g) k = mainTo ms k
  | 0, _ => rfl
  | k + 1, h => by
    have hk : InR ms (k : Int) := ⟨by omega, by omega⟩
    have : isMain (moAt (setGone ms g) k) = isMain (moAt ms k) := by rw [moAt_gone hk]; split <;> rfl
    rw [mainTo, mainTo, mainTo_gone k (by omega), this]
def noGone (ms : List Mo) : Prop := ∀ i (h : i < ms.length), ms[i].gone = false
theorem noGone.at {ms : List Mo} (h : noGone ms) {k : Int} (hk : InR ms k) : (moAt ms k).gone = false := by
  obtain ⟨h1, e1⟩ := hk.get
  rw [e1]
  exact h _ h1
theorem keepL_gone {ms : List Mo} {g : Nat} {x : Mo} (hx : x.gone = false) (hn : noGone ms) : ∀ (cs out : List Int), (∀ c ∈ cs, InR ms c) →
    keepL (setGone ms g) x cs (out.filter fun k => decide (k ≠ (g : Int))) = (keepL ms x cs out).filter fun k => decide (k ≠ (g : Int))
  | [], _, _ => rfl
  | c :: cs, out, h => by
    have hc := h c (List.mem_cons_self ..)
    have e1 : keep1 (setGone ms g) x (out.filter fun k => decide (k ≠ (g : Int))) c = (keep1 ms x out c).filter fun k => decide (k ≠ (g : Int)) := by
      unfold keep1
      rw [moAt_gone hc]
      by_cases hcg : c = (g : Int)
      · subst hcg
        simp only [if_true]
        rw [if_neg]
        · split
          · simp
          · rfl
        · rintro ⟨_, h2⟩
          simp [may, hx] at h2
      · simp only [if_neg hcg]
        by_cases hk : c ∉ out ∧ may x (moAt ms c) = true
        · rw [if_pos hk, if_pos ⟨fun hm => hk.1 (List.mem_filter.1 hm).1, hk.2⟩]
          simp [hcg]
        · rw [if_neg hk, if_neg]
          rintro ⟨h1, h2⟩
          exact hk ⟨fun hm => h1 (List.mem_filter.2 ⟨hm, by simpa using hcg⟩), h2⟩
    show keepL (setGone ms g) x cs (keep1 (setGone ms g) x _ c) = _
    rw [e1]
    exact keepL_gone hx hn cs _ fun c hc => h c (List.mem_cons_of_mem _ hc)
/-- The one that is closed is asked no more, the others in the same order. -/
theorem scope_gone {ms : List Mo} {g : Nat} (hn : noGone ms) {m : Int} (hm : InR ms m) (hg : m ≠ (g : Int)) : scopeL (setGone ms g) m = (scopeL ms m).filter fun k => decide (k ≠ (g : Int)) := by
  have hm2 := (InR_gone (g := g)).2 hm
  have hx : moAt (setGone ms g) m = moAt ms m := by rw [moAt_gone hm, if_neg hg]
  rw [scopeOf_eq hm2, scopeOf_eq hm, hx]
  have hc : candL (setGone ms g) (moAt ms m) = candL ms (moAt ms m) := by
    unfold candL cand1 cand2 mainL
    rw [cloL_gone, setGone_len, mainTo_gone _ (Nat.le_refl _)]
  unfold scopeOf
  rw [hc]
  exact keepL_gone (hn.at hm) hn _ [] candL_in
theorem hit_gone {ms : List Mo} {g : Nat} {k : Int} (h : InR ms k) (name want : ByteArray) : isHit (setGone ms g) name want k = isHit ms name want k := by
  unfold isHit
  rw [moAt_gone h]
  split <;> rfl
theorem off_gone {ms : List Mo} {g : Nat} {k : Int} (h : InR ms k) (name want : ByteArray) : offI (moAt (setGone ms g) k) name want = offI (moAt ms k) name want := by
  rw [moAt_gone h]
  split <;> rfl
theorem getElem?_findIdx {α : Type} (p : α → Bool) : ∀ l : List α, l[l.findIdx p]? = l.find? p
  | [] => rfl
  | a :: r => by
    rw [List.findIdx_cons, List.find?_cons]
    cases p a with
    | true => rfl
    | false => simpa using getElem?_findIdx p r
/-- What is found, as the first of a list. -/
def first (ms : List Mo) (l : List Int) (name want : ByteArray) : Option Int := l.find? (isHit ms name want)
theorem fMod_first (ms : List Mo) (l : List Int) (name want : ByteArray) : fMod ms l name want = (first ms l name want).getD 0 := by rw [fMod, hitN, getElem?_findIdx]; rfl
theorem fExp_first (ms : List Mo) (l : List Int) (name want : ByteArray) : fExp ms l name want = match first ms l name want with | some k => offI (moAt ms k) name want | none => 0 := by rw [fExp, hitN, getElem?_findIdx]; rfl
theorem fOk_first (ms : List Mo) (l : List Int) (name want : ByteArray) : fOk ms l name want = (first ms l name want).isSome := by
  rw [fOk, hitN, first, ← getElem?_findIdx]
  cases hg : l[l.findIdx (isHit ms name want)]? with
  | none => rw [decide_eq_false (by have := List.getElem?_eq_none_iff.1 hg; omega)]; rfl
  | some k => rw [decide_eq_true (List.getElem?_eq_some_iff.1 hg).1]; rfl
theorem first_gone {ms : List Mo} {g : Nat} {name want : ByteArray} : ∀ {l : List Int}, (∀ x ∈ l, InR ms x) → first ms l name want ≠ some (g : Int) →
    first (setGone ms g) (l.filter fun k => decide (k ≠ (g : Int))) name want = first ms l name want
  | [], _, _ => rfl
  | a :: r, hl, h => by
    unfold first at h ⊢
    have ha := hl a (List.mem_cons_self ..)
    rw [List.find?_cons] at h ⊢
    cases hh : isHit ms name want a with
    | true =>
      rw [hh] at h
      have hag : a ≠ (g : Int) := fun e => h (by rw [e])
      rw [List.filter_cons, if_pos (by simpa using hag), List.find?_cons, hit_gone ha, hh]
    | false =>
      rw [hh] at h
      have ih := first_gone (ms := ms) (g := g) (name := name) (want := want) (l := r) (fun x hx => hl x (List.mem_cons_of_mem _ hx)) h
      rw [List.filter_cons]
      split
      · rw [List.find?_cons, hit_gone ha, hh]
        exact ih
      · exact ih
theorem first_mem {ms : List Mo} {l : List Int} {name want : ByteArray} {k : Int} (h : first ms l name want = some k) : k ∈ l := List.mem_of_find?_eq_some h
/-- The law's last line. -/
theorem gone_ok {ms : List Mo} {g : Nat} (hn : noGone ms) {m : Int} (hm : InR ms m) (hg : m ≠ (g : Int)) (name want : ByteArray) :
    (((fOk ms (scopeL ms m) name want && (fMod ms (scopeL ms m) name want == (g : Int))) || (((fMod ms (scopeL ms m) name want == fMod (setGone ms g) (scopeL (setGone ms g) m) name want) && (fExp ms (scopeL ms m) name want == fExp (setGone ms g) (scopeL (setGone ms g) m) name want)) && (fOk ms (scopeL ms m) name want == fOk (setGone ms g) (scopeL (setGone ms g) m) name want))) = true) ∧
    ((!fOk (setGone ms g) (scopeL (setGone ms g) m) name want || (fMod (setGone ms g) (scopeL (setGone ms g) m) name want != (g : Int))) = true) := by
  rw [scope_gone hn hm hg]
  constructor
  · by_cases h : first ms (scopeL ms m) name want = some (g : Int)
    · rw [fOk_first, fMod_first, h]
      simp
    · have h2 := first_gone (ms := ms) (g := g) (name := name) (want := want) (l := scopeL ms m) scopeL_in h
      rw [fMod_first, fMod_first, fExp_first, fExp_first, fOk_first, fOk_first, h2]
      cases hf : first ms (scopeL ms m) name want with
      | none => simp
      | some k => simp [off_gone (scopeL_in k (first_mem hf))]
  · rw [fOk_first, fMod_first]
    cases hf : first (setGone ms g) ((scopeL ms m).filter fun k => decide (k ≠ (g : Int))) name want with
    | none => rfl
    | some k =>
      have := (List.mem_filter.1 (first_mem hf)).2
      simpa using this
end Go.BindLaw
