/- Locate: the library's compact of a sorted list is the reference's insertion; the laws' own loops. -/
import Derived.Test.YtcgapppamhffjaaW16
namespace Go.LocateLaw
open Go.Lib
theorem upTo_spec (zs : List Int) (hs : zs.Pairwise (· ≤ ·)) : ∀ m, m ≤ zs.length →
    (compactUpTo zs.toArray m).Pairwise (· < ·) ∧ ∀ y, y ∈ compactUpTo zs.toArray m ↔ ∃ j, ∃ h : j < zs.length, j < m ∧ zs[j] = y
  | 0, _ => by simp [compactUpTo]
  | m + 1, hm => by
    obtain ⟨ih1, ih2⟩ := upTo_spec zs hs m (by omega)
    have hml : m < zs.length := by omega
    have hget : ∀ j, j < zs.length → zs.toArray[j]! = zs[j]! := fun j hj => by simp [hj]
    have em : zs.toArray[m]! = zs[m] := by rw [hget m hml, getElem!_pos zs m hml]
    rw [compactUpTo_succ, em]
    by_cases h0 : m = 0
    · subst h0
      rw [if_pos (by simp [keeps])]
      simp only [compactUpTo, List.range_zero, List.filter_nil, List.map_nil, List.nil_append]
      refine ⟨List.pairwise_singleton .., fun y => ?_⟩
      simp only [List.mem_singleton]
      constructor
      · rintro rfl; exact ⟨0, hml, by omega, rfl⟩
      · rintro ⟨j, hj, hj1, rfl⟩
        have : j = 0 := by omega
        subst this; rfl
    · have hpl : m - 1 < zs.length := by omega
      have ep : zs.toArray[m - 1]! = zs[m - 1] := by rw [hget _ hpl, getElem!_pos zs _ hpl]
      have hle : zs[m - 1] ≤ zs[m] := List.pairwise_iff_getElem.1 hs _ _ hpl hml (by omega)
      by_cases he : zs[m] = zs[m - 1]
      · rw [if_neg (by rw [keeps_neg (Nat.pos_of_ne_zero h0) (by rw [em, ep, he])]; exact Bool.false_ne_true), List.append_nil]
        refine ⟨ih1, fun y => (ih2 y).trans ⟨fun ⟨j, hj, h1, h2⟩ => ⟨j, hj, by omega, h2⟩, fun ⟨j, hj, h1, h2⟩ => ?_⟩⟩
        by_cases hjm : j = m
        · subst hjm; exact ⟨j - 1, hpl, by omega, by rw [← he, h2]⟩
        · exact ⟨j, hj, by omega, h2⟩
      · rw [if_pos (keeps_pos (by rw [em, ep]; exact he))]
        refine ⟨List.pairwise_append.2 ⟨ih1, List.pairwise_singleton .., fun a ha b hb => ?_⟩, fun y => ?_⟩
        · obtain ⟨j, hj, h1, rfl⟩ := (ih2 a).1 ha
          rw [List.mem_singleton] at hb
          subst hb
          have : zs[j] ≤ zs[m - 1] := by
            by_cases e : j = m - 1
            · subst e; exact Int.le_refl _
            · exact List.pairwise_iff_getElem.1 hs _ _ hj hpl (by omega)
          omega
        · rw [List.mem_append, ih2, List.mem_singleton]
          constructor
          · rintro (⟨j, hj, h1, h2⟩ | rfl)
            · exact ⟨j, hj, by omega, h2⟩
            · exact ⟨m, hml, by omega, rfl⟩
          · rintro ⟨j, hj, h1, h2⟩
            by_cases hjm : j = m
            · subst hjm; exact .inr h2.symm
            · exact .inl ⟨j, hj, by omega, h2⟩
theorem compact_ofS (inf : Inf) (f : ByteArray) (n : Int) : Lib.compact ((addrS inf f n).mergeSort fun x y => decide (x ≤ y)) = ofS inf f n := by
  have hs : ((addrS inf f n).mergeSort fun x y => decide (x ≤ y)).Pairwise (· ≤ ·) := by
    have := List.pairwise_mergeSort (le := fun x y : Int => decide (x ≤ y)) (by intro a b c; simp; omega) (by intro a b; simp; omega) (addrS inf f n)
    exact this.imp fun h => by simpa using h
  obtain ⟨h1, h2⟩ := upTo_spec _ hs _ (Nat.le_refl _)
  refine sorted_ext _ _ h1 (fold_sorted _ _ .nil) fun y => ?_
  rw [show y ∈ ofS inf f n ↔ y ∈ addrS inf f n from by rw [ofS, fold_mem]; simp]
  refine (h2 y).trans ⟨fun ⟨j, hj, _, e⟩ => ?_, fun hy => ?_⟩
  · exact List.mem_mergeSort.1 (e ▸ List.getElem_mem hj)
  · obtain ⟨j, hj, e⟩ := List.getElem_of_mem (List.mem_mergeSort.2 hy : y ∈ (addrS inf f n).mergeSort fun x y => decide (x ≤ y))
    exact ⟨j, hj, hj, e⟩

/-! ### The example -/
def bf : ByteArray := ⟨#[102]⟩
def bg : ByteArray := ⟨#[103]⟩
def bh : ByteArray := ⟨#[104]⟩
def ba : ByteArray := ⟨#[97, 46, 99]⟩
def exI : Inf := ⟨[⟨bf, 0, 0, 0⟩, ⟨bg, 0, 32, 0⟩], [⟨0, 0, ba, 10⟩, ⟨0, 16, ba, 11⟩, ⟨0, 32, ba, 20⟩], [⟨0, 64⟩], [⟨0, 8, 24, bh, ba, 10⟩], []⟩
theorem ex16 : atS exI 16 = ⟨bf, 16, ba, 11, [⟨0, 8, 24, bh, ba, 10⟩]⟩ := by kernel_rfl
theorem ex40 : atS exI 40 = ⟨bg, 8, ba, 20, []⟩ := by kernel_rfl
theorem exb16 : atB exI 16 = true := by decide +kernel
theorem exb40 : atB exI 40 = true := by decide +kernel
theorem exb64 : atB exI 64 = false := by decide +kernel
theorem exf : findAt exI bg = 32 := by decide +kernel
theorem exfb : findB exI bg = true := by decide +kernel
theorem exo : Lib.compact ((addrS exI ba 11).mergeSort fun x y => decide (x ≤ y)) = [16] := by
  rw [compact_ofS]
  decide +kernel

/-! ### What the law Vars asks -/
theorem varsS_mem {inf : Inf} {p : Int} {x : Vr} (h : x ∈ varsS inf p) : x ∈ inf.vars ∧ x.from_ ≤ p ∧ p < x.to_ := by
  rw [varsS] at h
  split at h
  · have h1 := keepLast_sub _ _ h
    have h2 := List.mem_filter.1 h1
    have h3 := h2.2
    rw [vrP, Bool.and_eq_true, decide_eq_true_eq, decide_eq_true_eq] at h3
    exact ⟨h2.1, h3⟩
  · cases h
theorem varsS_len (inf : Inf) (p : Int) : (varsS inf p).length ≤ inf.vars.length := by
  rw [varsS]
  split
  · exact Nat.le_trans (keepLast_len _) (List.length_filter_le ..)
  · exact Nat.zero_le _
theorem varsS_nodup (inf : Inf) (p : Int) : (varsS inf p).Pairwise fun x y => x.name ≠ y.name := by
  rw [varsS]
  split
  · exact keepLast_nodup _
  · exact .nil
theorem varsS_has {inf : Inf} {p : Int} {x : Vr} (h : x ∈ inf.vars) (h1 : x.from_ ≤ p) (h2 : p < x.to_) (hb : atB inf p = true) : hasN (varsS inf p) x.name = true := by
  rw [varsS, if_pos (show (nodeO inf p).isSome = true from hb)]
  exact keepLast_has _ _ (List.mem_filter.2 ⟨h, by rw [vrP, Bool.and_eq_true, decide_eq_true_eq, decide_eq_true_eq]; exact ⟨h1, h2⟩⟩)
theorem varsS_no {inf : Inf} {p : Int} (hb : atB inf p = false) : varsS inf p = [] := by
  rw [varsS, if_neg (by rw [show (nodeO inf p).isSome = false from hb]; exact Bool.false_ne_true)]
theorem atS_inls {inf : Inf} {p : Int} (hb : atB inf p = true) : (atS inf p).inls.length = (inf.inlines.filter (ilP p)).length := by
  rw [at_eq hb]
  show (inlS inf p).length = _
  rw [inlS, List.length_reverse]
theorem atS_inls0 {inf : Inf} {p : Int} (hb : atB inf p = false) : (atS inf p).inls = [] := by rw [at_no hb]; rfl
theorem take_any {α : Type} (p : α → Bool) {l : List α} {k : Nat} (h : k < l.length) : ((l.take k).any p || p l[k]) = (l.take (k + 1)).any p := by
  rw [← List.take_append_getElem h, List.any_append]
  simp
end Go.LocateLaw
