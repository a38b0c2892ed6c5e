/- Bind: copies of modules. -/
import Derived.Test.YtgagjmapjdeknaaBase2
import Derived.Test.YtgagjmapjdeknaaPlain
namespace Go.Proofs.Ytgagjmapjdeknaa
open Go.RowKit Go.XK Go.BindLaw

/-! ### Copies of modules -/
theorem flatten_len {K : Nat} : ∀ css : List (List Value), (∀ c ∈ css, c.length = K) → css.flatten.length = css.length * K
  | [], _ => by simp
  | c :: r, h => by
    rw [List.flatten_cons, List.length_append, h c (List.mem_cons_self ..), flatten_len r fun c hc => h c (List.mem_cons_of_mem _ hc), List.length_cons, Nat.add_mul]
    omega
theorem Mods.snoc {w w0 : World} {base : Nat} {e : TypeId} {v : Value} {css : List (List Value)} {ycs : List Value} {ms : List Mo} {y : Mo} (hx : Ext w0 w) (h : w.ownsRow base e 32 v (css.length + 1) (css.flatten ++ ycs)) (hK : ∀ c ∈ css, c.length = 32) (hy : ycs.length = 32) (hl : css.length = ms.length)
    (hq : ∀ i (h1 : i < css.length) (h2 : i < ms.length), MoC w0 css[i] ms[i]) (hyq : MoC w0 ycs y) : Mods w v (ms ++ [y]) := by
  refine ⟨css ++ [ycs], ⟨?_, fun c hc => ?_⟩, by simp [hl], fun i h1 h2 => ?_⟩
  · have := Reads.of_own h
    simpa using this
  · rcases List.mem_append.1 hc with hc | hc
    · exact hK c hc
    · rw [List.mem_singleton] at hc
      rw [hc]
      exact hy
  · rcases Nat.lt_or_ge i css.length with h3 | h3
    · rw [List.getElem_append_left h3, List.getElem_append_left (by omega)]
      exact (hq i h3 (by omega)).ext hx
    · have h4 : i = css.length := by simp at h1; omega
      subst h4
      rw [List.getElem_append_right (Nat.le_refl _), List.getElem_append_right (by omega)]
      simpa [hl] using hyq.ext hx
theorem Mods.copy {w w0 : World} {base : Nat} {e : TypeId} {v : Value} {css : List (List Value)} {ms : List Mo} (hx : Ext w0 w) (h : w.ownsRow base e 32 v css.length css.flatten) (hK : ∀ c ∈ css, c.length = 32) (hl : css.length = ms.length)
    (hq : ∀ i (h1 : i < css.length) (h2 : i < ms.length), MoC w0 css[i] ms[i]) : Mods w v ms := ⟨css, ⟨Reads.of_own h, hK⟩, hl, fun i h1 h2 => (hq i h1 h2).ext hx⟩
theorem flatten_set {K : Nat} (u : Value) : ∀ (css : List (List Value)) (g j : Nat), (∀ c ∈ css, c.length = K) → g < css.length → j < K → css.flatten.set (g * K + j) u = (css.modify g fun c => c.set j u).flatten
  | [], g, _, _, h, _ => absurd h (Nat.not_lt_zero g)
  | c :: r, 0, j, hK, _, hj => by
    have hc := hK c (List.mem_cons_self ..)
    rw [Nat.zero_mul, Nat.zero_add, List.flatten_cons, List.set_append_left _ _ (by omega)]
    rfl
  | c :: r, g + 1, j, hK, hg, hj => by
    have hc := hK c (List.mem_cons_self ..)
    have ih := flatten_set u r g j (fun c hc => hK c (List.mem_cons_of_mem _ hc)) (by simpa using hg) hj
    rw [List.flatten_cons, List.set_append_right _ _ (by rw [hc, Nat.add_mul]; omega), hc, show (g + 1) * K + j - K = g * K + j by rw [Nat.add_mul]; omega, ih]
    rfl
theorem MoC.setGone {w : World} {cs : List Value} {m : Mo} (h : MoC w cs m) : MoC w (cs.set 30 (.bool true)) { m with gone := true } := by
  have hne : ∀ j, j ≠ 30 → (cs.set 30 (Value.bool true))[j]? = cs[j]? := fun j hj => List.getElem?_set_ne (fun e => hj e.symm)
  obtain ⟨h0, ⟨ev, vv, a1, a2, a3, a4⟩, h2, h3, ⟨nv, h4, h5⟩, h6, h7, h8⟩ := h
  refine ⟨by simpa using h0, ⟨ev, vv, by rw [hne 9 (by decide)]; exact a1, a2, by rw [hne 18 (by decide)]; exact a3, a4⟩, by rw [hne 26 (by decide)]; exact h2, by rw [hne 27 (by decide)]; exact h3, ⟨nv, by rw [hne 29 (by decide)]; exact h4, h5⟩, ?_, by rw [hne 31 (by decide)]; exact h7, fun q hq => ?_⟩
  · rw [List.getElem?_set_self (by omega)]
  · rcases List.mem_or_eq_of_mem_set hq with hq | rfl
    · exact h8 q hq
    · rfl
theorem Mods.setGone {w w0 : World} {base : Nat} {e : TypeId} {v : Value} {css : List (List Value)} {ms : List Mo} {g : Nat} (hx : Ext w0 w) (hg : g < ms.length) (h : w.ownsRow base e 32 v css.length (css.flatten.set (g * 32 + 30) (.bool true))) (hK : ∀ c ∈ css, c.length = 32) (hl : css.length = ms.length)
    (hq : ∀ i (h1 : i < css.length) (h2 : i < ms.length), MoC w0 css[i] ms[i]) : Mods w v (BindLaw.setGone ms g) := by
  rw [flatten_set _ css g 30 hK (by omega) (by decide)] at h
  have hml : (css.modify g fun c => c.set 30 (Value.bool true)).length = css.length := List.length_modify ..
  refine ⟨css.modify g fun c => c.set 30 (.bool true), ⟨by rw [hml]; exact Reads.of_own h, fun c hc => ?_⟩, by rw [hml, BindLaw.setGone_len]; exact hl, fun i h1 h2 => ?_⟩
  · obtain ⟨j, hj, rfl⟩ := List.getElem_of_mem hc
    rw [List.getElem_modify]
    have := hK _ (List.getElem_mem (by rw [hml] at hj; exact hj : j < css.length))
    split
    · simpa using this
    · exact this
  · have h3 : i < css.length := by rw [hml] at h1; exact h1
    have h4 : i < ms.length := by omega
    have e1 : (BindLaw.setGone ms g)[i] = if g = i then { ms[i] with gone := true } else ms[i] := by
      have h5 : (BindLaw.setGone ms g)[i]? = some (if g = i then { ms[i] with gone := true } else ms[i]) := by
        unfold BindLaw.setGone
        rw [List.getElem?_modify, List.getElem?_eq_getElem h4]
        by_cases hgi : g = i
        · simp [hgi]
        · simp [hgi]
      rw [List.getElem?_eq_getElem h2] at h5
      exact Option.some.inj h5
    rw [e1, List.getElem_modify]
    split
    · exact ((hq i h3 h4).ext hx).setGone
    · exact (hq i h3 h4).ext hx
end Go.Proofs.Ytgagjmapjdeknaa
