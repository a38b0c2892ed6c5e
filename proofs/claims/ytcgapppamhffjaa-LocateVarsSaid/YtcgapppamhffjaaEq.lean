/- Locate: equality of structs. -/
import Derived.Test.YtcgapppamhffjaaW11
namespace Go.Proofs.Ytcgapppamhffjaa
open Go.RowKit Go.XK Go.LocateLaw
theorem vr_eq {s t : Vr} : s = t ↔ s.sec = t.sec ∧ s.from_ = t.from_ ∧ s.to_ = t.to_ ∧ s.name = t.name ∧ s.where_ = t.where_ ∧ s.n = t.n := by
  cases s; cases t; simp
theorem il_eq {s t : Il} : s = t ↔ s.sec = t.sec ∧ s.from_ = t.from_ ∧ s.to_ = t.to_ ∧ s.name = t.name ∧ s.file = t.file ∧ s.line = t.line := by
  cases s; cases t; simp
theorem toL {a b : ByteArray} : a.toList = b.toList ↔ a = b := by
  have := Lib.bytes_beq_iff a b
  rwa [beq_iff_eq] at this
theorem vr_eql (x y : Operand) (s t : Vr) (w : World) : ((do eqGuard .eql 55 x y (.agg (vrC s).toArray) (.agg (vrC t).toArray); binOp .eql 55 (.agg (vrC s).toArray) (.agg (vrC t).toArray)) : Sem Value).run Try.prog w = .ok (.bool (decide (s = t))) w := by
  simp [go_sem, vrC, vr_eq]
  by_cases h1 : s.sec = t.sec <;> by_cases h2 : s.from_ = t.from_ <;> by_cases h3 : s.to_ = t.to_ <;> by_cases h4 : s.name = t.name <;> by_cases h5 : s.where_ = t.where_ <;> by_cases h6 : s.n = t.n <;> simp [h1, h2, h3, h4, h5, h6, toL]
theorem vr_neq (x y : Operand) (s t : Vr) (w : World) : ((do eqGuard .neq 55 x y (.agg (vrC s).toArray) (.agg (vrC t).toArray); binOp .neq 55 (.agg (vrC s).toArray) (.agg (vrC t).toArray)) : Sem Value).run Try.prog w = .ok (.bool (!decide (s = t))) w := by
  simp [go_sem, vrC, vr_eq]
  by_cases h1 : s.sec = t.sec <;> by_cases h2 : s.from_ = t.from_ <;> by_cases h3 : s.to_ = t.to_ <;> by_cases h4 : s.name = t.name <;> by_cases h5 : s.where_ = t.where_ <;> by_cases h6 : s.n = t.n <;> simp [h1, h2, h3, h4, h5, h6, toL]
theorem il_neq (x y : Operand) (s t : Il) (w : World) : ((do eqGuard .neq 57 x y (.agg (ilC s).toArray) (.agg (ilC t).toArray); binOp .neq 57 (.agg (ilC s).toArray) (.agg (ilC t).toArray)) : Sem Value).run Try.prog w = .ok (.bool (!decide (s = t))) w := by
  simp [go_sem, ilC, il_eq]
  by_cases h1 : s.sec = t.sec <;> by_cases h2 : s.from_ = t.from_ <;> by_cases h3 : s.to_ = t.to_ <;> by_cases h4 : s.name = t.name <;> by_cases h5 : s.file = t.file <;> by_cases h6 : s.line = t.line <;> simp [h1, h2, h3, h4, h5, h6, toL]
end Go.Proofs.Ytcgapppamhffjaa
