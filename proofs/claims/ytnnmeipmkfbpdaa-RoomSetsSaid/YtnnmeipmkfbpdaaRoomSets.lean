/- For every list of spans, span and address, the law RoomSets returns true and the arguments read afterwards as before. No condition besides the statement. -/
import Derived.Test.YtnnmeipmkfbpdaaW12
import Derived.Test.YtnnmeipmkfbpdaaArgs
import Derived.Test.YtnnmeipmkfbpdaaPlain2
namespace Go.Proofs.Ytnnmeipmkfbpdaa
open Go.RowKit Go.XK Go.RoomLaw Go.ChangeShapes Go.WideShapes Go.ChangeAt

set_option maxRecDepth 100000 in
theorem sets_lifted (os : Os) (started : os.Started) (H : Type) (enc : TypeId × Value → H) :
    ReturnsInHanded {} Try.checked os 4 .any (Rows.roomSetsSpec.pre6 enc Try.prog Try.f4 Rows.roomSetsRow.domain false) (Rows.roomSetsSpec.post enc Try.prog Try.f4 false true false false) := by
  refine law_lifted (C := Try.checked) own started (by kernel_rfl) Try.func4
    (ChangeSpec.witness6 (enc := enc) (C := Try.checked) false ⟨#[], #[.slice none 0 0, .agg #[.int .i64 0, .int .i64 0], .int .i64 0], []⟩ 8 (by kernel_rfl) (by kernel_rfl) (by kernel_rfl) (by kernel_rfl))
    laid (by kernel_rfl) rfl (tb := 4) rfl Try.underlying4 (fun ds h => ?_) ?_
  · have h : ds.length = 3 := h
    match ds, h with
    | [d0, d1, d2], _ => rfl
  intro W base args ds p hval0 hA0
  have hval : ∀ (j : Nat) t v, Try.f4.params[j]? = some t → args[j]? = some v → Value.okWide Try.prog W .any base t v := hval0
  have hA : DataW.TrodAll enc Try.prog W 0 (fun _ => true) true Try.f4.params.toList args.toList ds p := hA0
  rw [Try.params4] at hA hval
  obtain ⟨v0, vs0, d0, ds0, p0, q0, hargs, rfl, rfl, h0, r0⟩ := trodAll_cons hA
  obtain ⟨v1, vs1, d1, ds1, p1, q1, rfl, rfl, rfl, h1, r1⟩ := trodAll_cons r0
  obtain ⟨v2, vs2, d2, ds2, p2, q2, rfl, rfl, rfl, h2, r2⟩ := trodAll_cons r1
  obtain ⟨rfl, rfl, rfl⟩ := trodAll_nil r2
  obtain rfl : args = #[v0, v1, v2] := by cases args; simp_all
  obtain ⟨l, hl⟩ := arg_spans (hval 0 22 v0 rfl rfl) h0
  obtain ⟨s, rfl⟩ := arg_span (hval 1 24 v1 rfl rfl) h1
  obtain ⟨a, rfl⟩ := arg_int (hval 2 3 v2 rfl rfl) h2
  refine (sets_any l _ s a W hl).mono fun e w' ⟨he, hx⟩ => ⟨?_, hx⟩
  rw [he, lawSets_true l s a]

/-- The statement. -/
theorem sets_holds : Rows.RoomSetsSaid :=
  OpenClaim.holds_of_wide 4 Try.f4 rfl rfl rfl rfl rfl rfl rfl ⟨rfl, rfl, rfl, rfl, rfl⟩ rfl rfl rfl rfl rfl (by kernel_rfl) Try.func4 (by kernel_rfl)
    (of_decide_eq_true (by kernel_rfl)) (by unfold Func.isWrapper; first | (rw [if_pos (by decide +kernel)]; kernel_rfl) | (rw [if_neg (by decide +kernel)]; exact ⟨rfl, rfl⟩))
    (fun os started H enc _ => sets_lifted os started H enc)
#print axioms sets_holds
end Go.Proofs.Ytnnmeipmkfbpdaa
