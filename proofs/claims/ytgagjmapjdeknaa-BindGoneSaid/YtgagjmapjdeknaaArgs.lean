/- Bind: what came in, read as modules, strings and numbers. -/
import Derived.Test.YtgagjmapjdeknaaBase
import Derived.ChangeMaps5
import Derived.Test.YtgagjmapjdeknaaSized
namespace Go.Proofs.Ytgagjmapjdeknaa
open Go.RowKit Go.XK Go.BindLaw Go.ChangeShapes Go.WideShapes Go.ChangeAt Go.ChangeMaps Go.Deep
set_option maxRecDepth 100000

theorem own : ownKnob Try.prog.godebug = none := by kernel_rfl
theorem laid : laidOutB Try.prog = true := by kernel_rfl
section
variable {H : Type} {enc : TypeId × Value → H} {W : World} {base : Nat} {held : Bool} {v : Value} {d : DataW H} {p : List MemPlace} {r : Reach} {b0 : Nat}
theorem arg_int (hv : Value.okWide Try.prog W r b0 3 v) (h : DataW.Trod enc Try.prog W base (fun _ => true) held 3 v d p) : ∃ n, v = .int .i64 n := by
  obtain ⟨n, rfl, _⟩ := open_int Try.underlying3 hv h
  exact ⟨n, rfl⟩
theorem arg_str (hv : Value.okWide Try.prog W r b0 9 v) (h : DataW.Trod enc Try.prog W base (fun _ => true) held 9 v d p) : ∃ s, v = .string s := by
  obtain ⟨s, rfl, _⟩ := open_string Try.underlying9 hv h
  exact ⟨s, rfl⟩
theorem arg_mods (hv : Value.okWide Try.prog W r b0 22 v) (h : DataW.Trod enc Try.prog W base (fun _ => true) held 22 v d p) : ∃ ms, Mods W v ms := by
  obtain ⟨a, l, c, rfl⟩ := okWide_slice Try.underlying22 hv
  obtain ⟨fuel, hf⟩ := h
  exact mods_of hf
theorem arg_mod (hv : Value.okWide Try.prog W r b0 56 v) (h : DataW.Trod enc Try.prog W base (fun _ => true) held 56 v d p) : ∃ cs m, v = .agg cs.toArray ∧ MoC W cs m := by
  obtain ⟨cs, rfl, hs⟩ := okWide_struct Try.underlying56 hv
  obtain ⟨fuel, hf⟩ := h
  rw [c_mo] at hs
  have hl : cs.toList.length = 32 := by simpa using hs
  obtain ⟨m, hm⟩ := mo_of (n := fuel) hl hf
  exact ⟨cs.toList, m, by simp, hm⟩
theorem b_mo : Try.prog.bytesOf 56 = 568 := by kernel_rfl
theorem mods_sized {ts : List TypeId} {ds : List (DataW H)} (hsz : (DataW.weightsEach Try.prog ts ds).all (· ≤ reachBytes) = true) {j : Nat} (ht : ts[j]? = some 22) (hd : ds[j]? = some d) (h : DataW.Trod enc Try.prog W base (fun _ => true) held 22 v d p) {ms : List Mo} (hms : Mods W v ms) : ms.length * 568 ≤ 140737488351232 := by
  obtain ⟨a, c, rfl, _⟩ := ListR.isS hms
  have := slice_sized hsz ht hd Try.underlying22 h
  rw [b_mo] at this
  exact this
end
end Go.Proofs.Ytgagjmapjdeknaa
