/- What came in lies in single cells. -/
import Derived.Test.YtcgapppamhffjaaLaw
namespace Go.XK
open Go.RowKit Go.ChangeShapes Go.WideShapes

/-- The fields of a struct cover its cells. -/
def cov (P : Program) : Nat → TypeId → Bool
  | 0, _ => false
  | d + 1, t => match P.underlying t with
    | some (.struct fs) => ((List.range (P.cellsOf t)).all fun j => fs.toList.any fun f => Nat.ble f.offset j && Nat.blt j (f.offset + P.cellsOf f.type)) && fs.toList.all fun f => cov P d f.type
    | some (.array _ _) => false
    | _ => true
section
variable {H : Type} {enc : TypeId × Value → H} {P : Program} {w : World} {base : Nat} {sp : Nat → Bool} {held : Bool}
theorem trod_one : ∀ (d : Nat) (t : TypeId), cov P d t = true → ∀ (fuel : Nat) (cs : List Value) (x : DataW H × List MemPlace), DataW.trod enc P w base sp held fuel t cs = some x → ∀ q ∈ cs, q.oneCell' = true
  | 0, _, h, _, _, _, _ => by cases h
  | d + 1, t, h, fuel, cs, x, hx => by
    simp only [cov] at h
    cases hu : P.underlying t with
    | none =>
      cases fuel with
      | zero => simp [DataW.trod] at hx
      | succ n => unfold DataW.trod at hx; rw [hu] at hx; simp at hx
    | some D =>
      rw [hu] at h
      by_cases hs : ∃ fs, D = .struct fs
      · obtain ⟨fs, rfl⟩ := hs
        simp only [Bool.and_eq_true] at h
        obtain ⟨h1, h2⟩ := h
        obtain ⟨xs, n, _, _, hl, hlen, hf⟩ := DataW.trod_struct hu hx
        intro q hq
        obtain ⟨j, hj, rfl⟩ := List.getElem_of_mem hq
        have h3 := List.all_eq_true.1 h1 j (List.mem_range.2 (by omega))
        obtain ⟨f, hfm, h4⟩ := List.any_eq_true.1 h3
        simp only [Bool.and_eq_true, Nat.ble_eq, Nat.blt_eq] at h4
        obtain ⟨i, hi, rfl⟩ := List.getElem_of_mem hfm
        have hi' : i < fs.size := by simpa using hi
        have h5 := hf i fs.toList[i] (by simp [hi'])
        rw [List.getElem?_eq_getElem (by omega)] at h5
        refine trod_one d _ (List.all_eq_true.1 h2 _ hfm) n _ _ h5 _ ?_
        refine List.mem_of_getElem? (i := j - fs.toList[i].offset) ?_
        rw [List.getElem?_take, if_pos (by omega), List.getElem?_drop, show fs.toList[i].offset + (j - fs.toList[i].offset) = j by omega, List.getElem?_eq_getElem hj]
      · cases fuel with
        | zero => simp [DataW.trod] at hx
        | succ n =>
          unfold DataW.trod at hx
          rw [hu] at hx
          cases D
          case struct fs => exact absurd ⟨fs, rfl⟩ hs
          case array n e => cases h
          all_goals
            intro q hq
            split at hx
            all_goals first
              | (simp only [List.mem_singleton] at hq; subst hq; rfl)
              | (cases hx; done)
              | (simp_all; done)
end
end Go.XK
