/- Results that lie in cells: a struct's and a plain one's. -/
import Derived.Test.YtcgapppamhffjaaIter
namespace Go.XK
open Go.RowKit
section
variable {P : Program} {N : Nat} {env : List (Nat × Value)} {w : World}
/-- What a result's cell holds. -/
def LV (P : Program) (w : World) (rt : TypeId) (b : Nat) (v : Value) : Prop := (loadVar rt ⟨b, 0, none⟩).run P w = .ok v w
theorem LV.flat {t T : TypeId} {b : Nat} {v : Value} (ht : Flat P t) (hr : Row w b T [v]) : LV P w t b v := run_loadVar_flat ht hr
theorem LV.agg {t T : TypeId} {b : Nat} {vs : List Value} (hr : Row w b T vs) (ht : Aggr P t vs.length) : LV P w t b (.agg vs.toArray) := by
  unfold Aggr at ht
  cases hu : P.underlying t with
  | none => rw [hu] at ht; cases ht
  | some D =>
    rw [hu] at ht
    refine run_loadVar_row w b T t vs.toArray (0, 0) D hr hu ?_ ?_
    · cases D <;> first | rfl | cases ht
    · cases D <;> first | exact ht | cases ht
theorem AQ.retCT {fn : Func} {R : Ending → World → Prop} {t u b : Nat} {rt : TypeId} {v x : Value} (hr : fn.results = #[.cell t rt, .tmp u]) (hl : look env t = some (.pointer (some ⟨b, 0, none⟩))) (hl' : look env u = some x) (hv : LV P w rt b v)
    (h : R (.returned (.tuple #[v, x])) w) : AQ [] .ret (bodyPost P fn R) N env w := fun a ha => by
  have h1 := ha.has t _ hl
  have h2 := ha.has u _ hl'
  rw [Array.getD_eq_getD_getElem?] at h1 h2
  unfold LV at hv
  exact bodyPost_ret (by simp [results, hr, h1, h2, asAddr, hv]) ha.defers h
theorem resC2 {fn : Func} {t u b1 b2 : Nat} {rt1 rt2 : TypeId} {v x : Value} (hr : fn.results = #[.cell t rt1, .cell u rt2])
    (hl : look env t = some (.pointer (some ⟨b1, 0, none⟩))) (hl' : look env u = some (.pointer (some ⟨b2, 0, none⟩))) (r1 : LV P w rt1 b1 v) (r2 : LV P w rt2 b2 x)
    (dl : List Deferred) (a : Act) (ha : OK dl a env N) : (results fn a.tmps).run P w = .ok (.tuple #[v, x]) w := by
  have h1 := ha.has t _ hl
  have h2 := ha.has u _ hl'
  rw [Array.getD_eq_getD_getElem?] at h1 h2
  unfold LV at r1 r2
  simp [results, hr, h1, h2, asAddr, r1, r2]
end
end Go.XK
