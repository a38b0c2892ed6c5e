/- Room: what came in, read as lists of spans, spans and numbers. -/
import Derived.Test.YtnnmeipmkfbpdaaLaw
import Derived.Test.YtnnmeipmkfbpdaaBase
namespace Go.Proofs.Ytnnmeipmkfbpdaa
open Go.RowKit Go.XK Go.RoomLaw Go.ChangeShapes Go.WideShapes Go.ChangeAt Go.Joins Go.Deep

theorem c_int : Try.prog.cellsOf 3 = 1 := by kernel_rfl
theorem c_span : Try.prog.cellsOf 24 = 2 := by kernel_rfl
theorem own : ownKnob Try.prog.godebug = none := by kernel_rfl
theorem laid : laidOutB Try.prog = true := by kernel_rfl
section
variable {H : Type} {enc : TypeId × Value → H} {W : World} {base : Nat} {sp : Nat → Bool} {held : Bool} {v : Value} {d : DataW H} {p : List MemPlace} {r : Reach} {b0 : Nat}
theorem arg_span (hv : Value.okWide Try.prog W r b0 24 v) (h : DataW.Trod enc Try.prog W base sp held 24 v d p) : ∃ s, v = spV s := by
  obtain ⟨v0, v1, y0, y1, n, rfl, _, _, h0, h1⟩ := open_agg2 Try.underlying24 (by kernel_rfl) c_span hv h
  obtain ⟨a, e0, _, _⟩ := DataW.trod_int Try.underlying3 h0
  obtain ⟨b, e1, _, _⟩ := DataW.trod_int Try.underlying3 h1
  simp only [List.cons.injEq, and_true] at e0 e1
  exact ⟨(a, b), by rw [e0, e1]; rfl⟩
theorem arg_int (hv : Value.okWide Try.prog W r b0 3 v) (h : DataW.Trod enc Try.prog W base sp held 3 v d p) : ∃ n, v = .int .i64 n := by
  obtain ⟨n, rfl, _⟩ := open_int Try.underlying3 hv h
  exact ⟨n, rfl⟩
theorem arg_spans (hv : Value.okWide Try.prog W r b0 22 v) (h : DataW.Trod enc Try.prog W base sp held 22 v d p) : ∃ l, Spans W v l := by
  rcases args_of_cells Try.underlying22 hv h with rfl | ⟨b, o, len, cap, n, D, Pl, rfl, hlc, hcm, hi⟩
  · exact ⟨[], rfl, .inl ⟨⟨_, rfl⟩, rfl⟩⟩
  · rw [c_span] at hi
    obtain ⟨l, hl, hq⟩ := list_of (α := Sp) (Q := fun i s => W.cell? ⟨b, o + i * 2, none⟩ = some (.int .i64 s.1) ∧ W.cell? ⟨b, o + (i * 2 + 1), none⟩ = some (.int .i64 s.2)) len fun i hil => by
      obtain ⟨cs, h1, h2, h3⟩ := hi i hil
      obtain ⟨y0, y1, m, _, _, k0, k1⟩ := trod_struct2 Try.underlying24 h3
      obtain ⟨a, e0, _, _⟩ := DataW.trod_int Try.underlying3 k0
      obtain ⟨c, e1, _, _⟩ := DataW.trod_int Try.underlying3 k1
      have f0 := get_of_one (j := 0) (by rw [← e0]; exact congrArg (fun n => List.take n (cs.drop 0)) c_int.symm)
      have f1 := get_of_one (j := 1) (by rw [← e1]; exact congrArg (fun n => List.take n (cs.drop 1)) c_int.symm)
      exact ⟨(a, c), by rw [← f0, ← h2 0 (by omega), Nat.add_zero], by rw [← f1, ← h2 1 (by omega)]⟩
    refine ⟨l, by rw [spCs_length], .inr ⟨b, o, cap, by rw [hl], by omega, hcm, fun j u hj => ?_⟩⟩
    have hjl : j < (spCs l).length := (List.getElem?_eq_some_iff.1 hj).1
    rw [spCs_length] at hjl
    have hjd : j / 2 < l.length := by omega
    obtain ⟨g1, g2⟩ := hq (j / 2) hjd
    obtain ⟨s1, s2⟩ := spCs_get l (j / 2) hjd
    rw [gt_lt hjd] at s1 s2
    rcases Nat.mod_two_eq_zero_or_one j with hm | hm
    · have e : j / 2 * 2 = j := by omega
      rw [e] at g1 s1
      rw [g1, ← s1, hj]
    · have e : j / 2 * 2 + 1 = j := by omega
      rw [e] at g2 s2
      rw [g2, ← s2, hj]
end
end Go.Proofs.Ytnnmeipmkfbpdaa
