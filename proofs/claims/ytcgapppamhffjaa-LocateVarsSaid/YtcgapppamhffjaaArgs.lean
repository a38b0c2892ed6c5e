/- Locate: what came in, read as an image's information, strings and numbers. -/
import Derived.Test.YtcgapppamhffjaaBase
import Derived.ChangeMaps5
import Derived.Test.YtcgapppamhffjaaLaw
namespace Go.Proofs.Ytcgapppamhffjaa
open Go.RowKit Go.XK Go.LocateLaw Go.ChangeShapes Go.WideShapes Go.ChangeAt Go.ChangeMaps Go.Deep
set_option maxRecDepth 100000

theorem own : ownKnob Try.prog.godebug = none := by kernel_rfl
theorem laid : laidOutB Try.prog = true := by kernel_rfl
section
variable {H : Type} {enc : TypeId × Value → H} {W : World} {base : Nat} {held : Bool} {v : Value} {d : DataW H} {p : List MemPlace} {r : Reach} {b0 : Nat}
theorem arg_int (hv : Value.okWide Try.prog W r b0 3 v) (h : DataW.Trod enc Try.prog W base (fun _ => true) held 3 v d p) : ∃ n, v = .int .i64 n := by
  obtain ⟨n, rfl, _⟩ := open_int Try.underlying3 hv h
  exact ⟨n, rfl⟩
theorem arg_str (hv : Value.okWide Try.prog W r b0 9 v) (h : DataW.Trod enc Try.prog W base (fun _ => true) held 9 v d p) : ∃ s, v = .string s := by
  obtain ⟨s, rfl, _⟩ := open_string Try.underlying9 hv h
  exact ⟨s, rfl⟩
theorem c_img : Try.prog.cellsOf 39 = 26 := by kernel_rfl
theorem arg_img (hv : Value.okWide Try.prog W r b0 39 v) (h : DataW.Trod enc Try.prog W base (fun _ => true) held 39 v d p) : ∃ cs inf, v = .agg cs.toArray ∧ InfC W cs inf := by
  obtain ⟨cs, rfl, hs⟩ := okWide_struct Try.underlying39 hv
  obtain ⟨fuel, hf⟩ := h
  rw [c_img] at hs
  have hl : cs.toList.length = 26 := by simpa using hs
  obtain ⟨inf, hm⟩ := inf_of (n := fuel) hl hf
  exact ⟨cs.toList, inf, by simp, hm⟩
end
end Go.Proofs.Ytcgapppamhffjaa
