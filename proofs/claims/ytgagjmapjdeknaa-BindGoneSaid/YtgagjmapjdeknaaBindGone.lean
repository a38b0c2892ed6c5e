/- For all modules, numbers, names and versions, the law BindGone returns true and the arguments read afterwards as before. No condition besides the statement. -/
import Derived.Test.YtgagjmapjdeknaaW25
import Derived.Test.YtgagjmapjdeknaaArgs
namespace Go.Proofs.Ytgagjmapjdeknaa
open Go.RowKit Go.XK Go.BindLaw Go.ChangeShapes Go.WideShapes Go.ChangeAt

set_option maxRecDepth 100000 in
theorem gone_lifted (os : Os) (started : os.Started) (H : Type) (enc : TypeId × Value → H) :
    ReturnsInHanded {} Try.checked os 7 .any (Rows.bindGoneSpec.pre6 enc Try.prog Try.f7 Rows.bindGoneRow.domain false) (Rows.bindGoneSpec.post enc Try.prog Try.f7 false true false false) := by
  refine law_lifted (C := Try.checked) own started (by kernel_rfl) Try.func7
    (ChangeSpec.witness6 (enc := enc) (C := Try.checked) false ⟨#[], #[.slice none 0 0, .int .i64 0, .int .i64 0, .string ByteArray.empty, .string ByteArray.empty], []⟩ 8 (by kernel_rfl) (by kernel_rfl) (by kernel_rfl) (by kernel_rfl))
    laid (by kernel_rfl) rfl (tb := 4) rfl Try.underlying4 (fun ds h => ?_) ?_
  · have h : ds.length = 5 := h
    match ds, h with
    | [d0, d1, d2, d3, d4], _ => rfl
  intro W base args ds p hval0 hA0
  have hval : ∀ (j : Nat) t v, Try.f7.params[j]? = some t → args[j]? = some v → Value.okWide Try.prog W .any base t v := hval0
  have hA : DataW.TrodAll enc Try.prog W 0 (fun _ => true) true Try.f7.params.toList args.toList ds p := hA0
  rw [Try.params7] at hA hval
  obtain ⟨v0, vs0, d0, ds0, p0, q0, hargs, rfl, rfl, h0, r0⟩ := trodAll_cons hA
  obtain ⟨v1, vs1, d1, ds1, p1, q1, rfl, rfl, rfl, h1, r1⟩ := trodAll_cons r0
  obtain ⟨v2, vs2, d2, ds2, p2, q2, rfl, rfl, rfl, h2, r2⟩ := trodAll_cons r1
  obtain ⟨v3, vs3, d3, ds3, p3, q3, rfl, rfl, rfl, h3, r3⟩ := trodAll_cons r2
  obtain ⟨v4, vs4, d4, ds4, p4, q4, rfl, rfl, rfl, h4, r4⟩ := trodAll_cons r3
  obtain ⟨rfl, rfl, rfl⟩ := trodAll_nil r4
  obtain rfl : args = #[v0, v1, v2, v3, v4] := by cases args; simp_all
  obtain ⟨ms, hms⟩ := arg_mods (hval 0 22 v0 rfl rfl) h0
  obtain ⟨g, rfl⟩ := arg_int (hval 1 3 v1 rfl rfl) h1
  obtain ⟨m, rfl⟩ := arg_int (hval 2 3 v2 rfl rfl) h2
  obtain ⟨name, rfl⟩ := arg_str (hval 3 9 v3 rfl rfl) h3
  obtain ⟨want, rfl⟩ := arg_str (hval 4 9 v4 rfl rfl) h4
  exact (gone_any ms _ g m name want W hms).mono fun e w' ⟨he, hx⟩ => ⟨he, hx⟩

/-- The statement. -/
theorem gone_holds : Rows.BindGoneSaid :=
  OpenClaim.holds_of_wide 7 Try.f7 rfl rfl rfl rfl rfl rfl rfl ⟨rfl, rfl, rfl, rfl, rfl⟩ rfl rfl rfl rfl rfl (by kernel_rfl) Try.func7 (by kernel_rfl)
    (of_decide_eq_true (by kernel_rfl)) (by unfold Func.isWrapper; first | (rw [if_pos (by decide +kernel)]; kernel_rfl) | (rw [if_neg (by decide +kernel)]; exact ⟨rfl, rfl⟩))
    (fun os started H enc _ => gone_lifted os started H enc)
#print axioms gone_holds
end Go.Proofs.Ytgagjmapjdeknaa
