/- Locate: the library's sort at integers, by the shelf's contract. -/
import Derived.Test.YtcgapppamhffjaaBase
import Derived.Shelf.Lay
import Derived.Shelf.Sort.Plain
import Derived.Shelf.Slices.In.SortNone
import Derived.Shelf.Slices.CompactI
import Derived.Lib.RowBridge
import Derived.Ground.NamesProg
import Derived.Ground.Names2Prog
import Derived.Sort.OwnSortedInts
import Derived.Test.YtcgapppamhffjaaQueue
namespace Go.Proofs
open Go.Shelf
shelf_lay Lays.n189 Nm 189 at Try as Ytcgapppamhffjaa.lays189
shelf_lay Lays2.n20 Nm2 20 at Try as Ytcgapppamhffjaa.lays20
end Go.Proofs
namespace Go.Proofs.Ytcgapppamhffjaa
open Go.RowKit Go.XK Go.LocateLaw Go.Sort
theorem sort_at (blk off cap : Nat) (zs : List Int) (w : World) (hH : Holds (Value.int .i64) w blk off zs.toArray) (hblk : blk < w.heap.size) (hsz : zs.length < 4611686018427387904) :
    Calls Try.prog 39 #[.slice (some ⟨blk, off, none⟩) zs.length cap] w fun e w' =>
      e = .returned (.tuple #[]) ∧ ∃ n os, w' = grow (putRow (Value.int .i64) (Sort.ahead w n) blk off (zs.mergeSort fun x y => decide (x ≤ y)).toArray) os := Any.slices_Sort_int lays189 blk off cap zs w hH hblk hsz
theorem sort_none (p : Option Addr) (cap : Nat) (w : World) : Calls Try.prog 39 #[.slice p 0 cap] w fun e w' => e = .returned (.tuple #[]) ∧ w' = w :=
  calls_of_every_depth fun D => AnyS.slices_Sort_int_none_in lays189 D p cap w
theorem heap_sortO {w : World} {g n off : Nat} {os : Array Obj} {cur : Array Value} {e : TypeId} {fr : Nat × Nat} (d : Array Int) (hb : w.heap[g]? = some (.cells cur e fr)) :
    (grow (putRow (Value.int .i64) (Sort.ahead w n) g off d) os).heap[g]? = some (.cells (putCells (Value.int .i64) off d cur) e fr) := by
  have hg : g < w.heap.size := (Array.getElem?_eq_some_iff.1 hb).1
  rw [heap_grow_old _ _ (by simpa using hg)]
  simp [putRow, mapBlock, Sort.ahead, Array.getElem?_modify, hb, onCells]
theorem grown_sortO {w : World} {g n off : Nat} {os : Array Obj} (d : Array Int) : w.grownBy (grow (putRow (Value.int .i64) (Sort.ahead w n) g off d) os) (some g) := by
  refine ⟨rfl, rfl, rfl, by simp, fun k hk hne => ?_⟩
  rw [heap_grow_old _ _ (by simpa using hk)]
  have : g ≠ k := fun e => hne (by rw [e])
  simp [putRow, mapBlock, Sort.ahead, Array.getElem?_modify, this]
theorem sort_any (l : List Int) (v : Value) (base : Nat) (w : World) (h : OwnQ w base 3 1 v l.length (l.map (Value.int .i64))) (hm8 : l.length ≤ 60) :
    Calls Try.prog 39 [v].toArray w fun e w' => e = .returned (.tuple #[]) ∧ Mod (fun b => v.ownBlock = some b) w w' ∧ OwnQ w' base 3 1 v l.length ((l.mergeSort fun x y => decide (x ≤ y)).map (Value.int .i64)) := by
  have hlen : (l.mergeSort fun x y => decide (x ≤ y)).length = l.length := List.length_mergeSort ..
  obtain ⟨h1, h2⟩ := h
  rcases h2 with ⟨rfl, hn⟩ | ⟨g, o, cap, cur, rfl, hg, hh, hnc, hcm, hcs, htake⟩
  · have hl : l = [] := List.eq_nil_of_length_eq_zero hn
    subst hl
    refine (sort_none none 0 w).mono fun e w' ⟨he, hw⟩ => ⟨he, ?_⟩
    subst hw
    exact ⟨Mod.refl _ _, by simp, .inl ⟨rfl, rfl⟩⟩
  · have hlt : g < w.heap.size := (Array.getElem?_eq_some_iff.1 hh).1
    rw [Nat.mul_one] at htake hcs
    have hH : Holds (Value.int .i64) w g o l.toArray := by
      intro j hj
      have hj' : j < l.length := by simpa using hj
      refine ⟨?_, by simp [World.frozen?, hh]⟩
      have e1 : ((cur.toList.drop o).take l.length)[j]? = (l.map (Value.int .i64))[j]? := by rw [htake]
      rw [List.getElem?_take_of_lt hj', List.getElem?_drop] at e1
      simp only [World.cell?, hh]
      simp only [Option.isSome_none, Bool.false_eq_true, if_false]
      rw [← Array.getElem?_toList, e1]
      simp [hj']
    refine (sort_at g o cap l w hH hlt (by omega)).mono fun e w' ⟨he, n, os, hw⟩ => ⟨he, ?_⟩
    subst hw
    refine ⟨Mod.of_grown (grown_sortO _) (fun k hk => hk), by simp [hlen], .inr ⟨g, o, cap, _, rfl, hg, heap_sortO _ hh, hnc, hcm, by simp [putCells]; omega, ?_⟩⟩
    rw [Nat.mul_one]
    apply List.ext_getElem?
    intro j
    by_cases hj : j < l.length
    · rw [List.getElem?_take_of_lt hj, List.getElem?_drop, Array.getElem?_toList]
      have hj2 : o + j < cur.size := by omega
      have hj3 : j < (l.mergeSort fun x y => decide (x ≤ y)).length := by omega
      simp [putCells, hj2, hj3, hj]
    · rw [List.getElem?_take_eq_none (by omega), List.getElem?_eq_none (by simp; omega)]
theorem compact_none (p : Option Addr) (cap : Nat) (w : World) : Calls Try.prog 40 #[.slice p 0 cap] w fun e w' => e = .returned (.slice p 0 cap) ∧ w' = w := Any.slices_Compact_int_empty lays20 p cap w
theorem compact_at (blk off cap : Nat) (zs : List Int) (w : World) (hH : Holds (Value.int .i64) w blk off zs.toArray) (hsz : zs.length ≤ 9223372036854775807) (hcap : zs.length ≤ cap) :
    Calls Try.prog 40 #[.slice (some ⟨blk, off, none⟩) zs.length cap] w fun e w' => e = .returned (.slice (some ⟨blk, off, none⟩) (Lib.compact zs).length cap) ∧ ∃ q, w' = putRow (Value.int .i64) (Sort.ahead w q) blk off (Lib.compact zs ++ List.replicate (zs.length - (Lib.compact zs).length) 0).toArray := Any.slices_Compact_int lays20 blk off cap zs w hH hsz hcap
theorem compact_any (l : List Int) (v : Value) (base : Nat) (w : World) (h : OwnQ w base 3 1 v l.length (l.map (Value.int .i64))) (hm8 : l.length ≤ 60) :
    Calls Try.prog 40 [v].toArray w fun e w' => ∃ v', e = .returned v' ∧ Mod (fun b => v.ownBlock = some b) w w' ∧ OwnQ w' base 3 1 v' (Lib.compact l).length ((Lib.compact l).map (Value.int .i64)) := by
  have hle := Lib.compact_length_le l
  obtain ⟨h1, h2⟩ := h
  rcases h2 with ⟨rfl, hn⟩ | ⟨g, o, cap, cur, rfl, hg, hh, hnc, hcm, hcs, htake⟩
  · have hl : l = [] := List.eq_nil_of_length_eq_zero hn
    subst hl
    refine (compact_none none 0 w).mono fun e w' ⟨he, hw⟩ => ⟨_, he, ?_⟩
    subst hw
    exact ⟨Mod.refl _ _, by simp, .inl ⟨rfl, by have := hle; simpa using this⟩⟩
  · rw [Nat.mul_one] at htake hcs
    have hH : Holds (Value.int .i64) w g o l.toArray := by
      intro j hj
      have hj' : j < l.length := by simpa using hj
      refine ⟨?_, by simp [World.frozen?, hh]⟩
      have e1 : ((cur.toList.drop o).take l.length)[j]? = (l.map (Value.int .i64))[j]? := by rw [htake]
      rw [List.getElem?_take_of_lt hj', List.getElem?_drop] at e1
      simp only [World.cell?, hh]
      simp only [Option.isSome_none, Bool.false_eq_true, if_false]
      rw [← Array.getElem?_toList, e1]
      simp [hj']
    refine (compact_at g o cap l w hH (by omega) hnc).mono fun e w' ⟨he, n, hw⟩ => ⟨_, he, ?_⟩
    generalize hD : (Lib.compact l ++ List.replicate (l.length - (Lib.compact l).length) 0) = D at hw
    have hD1 : ∀ j (h : j < (Lib.compact l).length), D[j]? = some (Lib.compact l)[j] := fun j h => by rw [← hD, List.getElem?_append_left h, List.getElem?_eq_getElem h]
    have hDl : D.length = l.length := by rw [← hD]; simp; omega
    rw [← grow_empty (putRow _ _ _ _ _)] at hw
    subst hw
    refine ⟨Mod.of_grown (grown_sortO _) (fun k hk => hk), by simp, .inr ⟨g, o, cap, _, rfl, hg, heap_sortO _ hh, by omega, hcm, by simp [putCells]; omega, ?_⟩⟩
    rw [Nat.mul_one]
    apply List.ext_getElem?
    intro j
    by_cases hj : j < (Lib.compact l).length
    · rw [List.getElem?_take_of_lt hj, List.getElem?_drop, Array.getElem?_toList]
      have hj2 : o + j < cur.size := by omega
      have hj3 : j < D.length := by omega
      have hj4 := hD1 j hj
      rw [List.getElem?_eq_getElem hj3] at hj4
      have hj5 := Option.some.inj hj4
      simp [putCells, hj2, hj3, hj, hj5]
    · rw [List.getElem?_take_eq_none (by omega), List.getElem?_eq_none (by simp; omega)]
end Go.Proofs.Ytcgapppamhffjaa
