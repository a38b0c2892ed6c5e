/- Locate: how an image's tables lie in memory, and what came in. Printed by mkbase.py. -/
import Derived.Test.YtcgapppamhffjaaTypes
import Derived.Test.YtcgapppamhffjaaList
import Derived.Test.YtcgapppamhffjaaOne
import Derived.Test.YtcgapppamhffjaaIter
import Derived.Test.YtcgapppamhffjaaStr
import Derived.Test.YtcgapppamhffjaaMake
import Derived.Test.YtcgapppamhffjaaCell
import Derived.Test.YtcgapppamhffjaaSpec
namespace Go.Proofs.Ytcgapppamhffjaa
open Go.RowKit Go.XK Go.LocateLaw Go.ChangeShapes Go.WideShapes Go.ChangeAt Go.Deep

/-- A slice of literal structs. -/
def LR {α : Type} (K : Nat) (f : α → List Value) (w : World) (v : Value) (l : List α) : Prop := ListR w K v (fun cs x => cs = f x) l
section
variable {α : Type} {K : Nat} {f : α → List Value} {w w' : World} {v : Value} {l : List α}
theorem LR.ext (h : LR K f w v l) (he : Ext w w') : LR K f w' v l := ListR.mono h he fun _ _ h => h
theorem LR.isS (h : LR K f w v l) : IsS v l.length := ListR.isS h
theorem LR.isS3 (h : LR K f w v l) : ∃ a n c, v = .slice a n c := by
  obtain ⟨a, c, h, _⟩ := h.isS
  exact ⟨a, _, c, h⟩
theorem LR.isE (h : LR K f w v l) (hn : 0 < l.length) : IsE v l.length := ListR.isE h hn
theorem LR.max (h : LR K f w v l) : l.length ≤ maxLen := ListR.max h
theorem LR.at (h : LR K f w v l) {i : Nat} (hi : i < l.length) : At w (blk v) (ofs v + i * K) (f l[i]) := by
  obtain ⟨cs, _, h2, rfl⟩ := ListR.elem h hi
  exact h2
theorem LR.one (h : LR K f w v l) : v.oneCell' = true := by
  obtain ⟨a, c, rfl, _⟩ := h.isS
  rfl
theorem LR.of_map (hf : ∀ b, (f b).length = K) (h : Reads w K v l.length (l.map f).flatten) : LR K f w v l := by
  refine ⟨l.map f, ⟨by rw [List.length_map]; exact h, fun c hc => ?_⟩, by simp, fun i h1 h2 => by simp⟩
  obtain ⟨x, _, rfl⟩ := List.mem_map.1 hc
  exact hf x
theorem LR.reads (h : LR K f w v l) : Reads w K v l.length (l.map f).flatten := by
  obtain ⟨css, h1, h2, h3⟩ := h
  have e : css = l.map f := List.ext_getElem (by simp [h2]) fun i i1 i2 => by
    rw [List.getElem_map]
    exact h3 i i1 (by simpa using i2)
  have h4 := h1.1
  subst e
  rw [List.length_map] at h4
  exact h4
theorem LR.nil (w : World) : LR K f w (.slice none 0 0) [] := ⟨[], ⟨⟨by simp, .inl ⟨⟨_, rfl⟩, rfl⟩⟩, fun c hc => by cases hc⟩, rfl, fun i h1 => absurd h1 (Nat.not_lt_zero i)⟩
end
abbrev ptr (b : Nat) : Value := .pointer (some ⟨b, 0, none⟩)
def InfC (w : World) (cs : List Value) (inf : Inf) : Prop :=
  cs.length = 26 ∧ (∃ v, cs[19]? = some v ∧ LR 4 mkC w v inf.marks) ∧ (∃ v, cs[20]? = some v ∧ LR 4 lnC w v inf.lines) ∧ (∃ v, cs[21]? = some v ∧ LR 2 spC w v inf.ends) ∧ (∃ v, cs[22]? = some v ∧ LR 6 ilC w v inf.inlines) ∧ (∃ v, cs[23]? = some v ∧ LR 6 vrC w v inf.vars) ∧ ∀ q ∈ cs, q.oneCell' = true
theorem InfC.ext {w w' : World} {cs : List Value} {inf : Inf} (h : InfC w cs inf) (he : Ext w w') : InfC w' cs inf := by
  obtain ⟨h0, ⟨v1, a1, b1⟩, ⟨v2, a2, b2⟩, ⟨v3, a3, b3⟩, ⟨v4, a4, b4⟩, ⟨v5, a5, b5⟩, h6⟩ := h
  exact ⟨h0, ⟨v1, a1, b1.ext he⟩, ⟨v2, a2, b2.ext he⟩, ⟨v3, a3, b3.ext he⟩, ⟨v4, a4, b4.ext he⟩, ⟨v5, a5, b5.ext he⟩, h6⟩
theorem InfC.len {w : World} {cs : List Value} {inf : Inf} (h : InfC w cs inf) : cs.length = 26 := h.1
theorem im_sz {cs : List Value} (hl : cs.length = 26) : (Try.prog.info? 39).map (·.size) = some (Value.agg cs.toArray).cells.size := by
  rw [show (Value.agg cs.toArray).cells.size = 26 by simpa [Value.cells] using hl]
  kernel_rfl
theorem ag_len {cs old : List Value} (h : cs.length = old.length) : old.length = (Value.agg cs.toArray).cells.size := by
  rw [← h]
  simp [Value.cells]
theorem ag_one {cs : List Value} (h : ∀ q ∈ cs, q.oneCell' = true) : (Value.agg cs.toArray).cells.toList.all (·.oneCell') = true := by
  rw [List.all_eq_true]
  intro q hq
  exact h q (by simpa [Value.cells] using hq)
/-! ### What came in -/
theorem c_int : Try.prog.cellsOf 3 = 1 := by kernel_rfl
theorem c_string : Try.prog.cellsOf 9 = 1 := by kernel_rfl
theorem c_im : Try.prog.cellsOf 39 = 26 := by kernel_rfl
theorem c_inf : Try.prog.cellsOf 36 = 6 := by kernel_rfl
theorem c_sp : Try.prog.cellsOf 61 = 2 := by kernel_rfl
theorem c_spans : Try.prog.cellsOf 31 = 1 := by kernel_rfl
theorem spL (x : Sp) : (spC x).length = 2 := rfl
theorem sp1 (x : Sp) : ∀ q ∈ spC x, q.oneCell' = true := by
  intro q hq
  simp only [spC, List.mem_cons, List.mem_nil_iff, or_false] at hq
  rcases hq with rfl | rfl <;> rfl
theorem c_mk : Try.prog.cellsOf 66 = 4 := by kernel_rfl
theorem c_marks : Try.prog.cellsOf 29 = 1 := by kernel_rfl
theorem mkL (x : Mk) : (mkC x).length = 4 := rfl
theorem mk1 (x : Mk) : ∀ q ∈ mkC x, q.oneCell' = true := by
  intro q hq
  simp only [mkC, List.mem_cons, List.mem_nil_iff, or_false] at hq
  rcases hq with rfl | rfl | rfl | rfl <;> rfl
theorem c_ln : Try.prog.cellsOf 74 = 4 := by kernel_rfl
theorem c_lines : Try.prog.cellsOf 30 = 1 := by kernel_rfl
theorem lnL (x : Ln) : (lnC x).length = 4 := rfl
theorem ln1 (x : Ln) : ∀ q ∈ lnC x, q.oneCell' = true := by
  intro q hq
  simp only [lnC, List.mem_cons, List.mem_nil_iff, or_false] at hq
  rcases hq with rfl | rfl | rfl | rfl <;> rfl
theorem c_il : Try.prog.cellsOf 57 = 6 := by kernel_rfl
theorem c_inlines : Try.prog.cellsOf 32 = 1 := by kernel_rfl
theorem ilL (x : Il) : (ilC x).length = 6 := rfl
theorem il1 (x : Il) : ∀ q ∈ ilC x, q.oneCell' = true := by
  intro q hq
  simp only [ilC, List.mem_cons, List.mem_nil_iff, or_false] at hq
  rcases hq with rfl | rfl | rfl | rfl | rfl | rfl <;> rfl
theorem c_vr : Try.prog.cellsOf 55 = 6 := by kernel_rfl
theorem c_vars : Try.prog.cellsOf 33 = 1 := by kernel_rfl
theorem vrL (x : Vr) : (vrC x).length = 6 := rfl
theorem vr1 (x : Vr) : ∀ q ∈ vrC x, q.oneCell' = true := by
  intro q hq
  simp only [vrC, List.mem_cons, List.mem_nil_iff, or_false] at hq
  rcases hq with rfl | rfl | rfl | rfl | rfl | rfl <;> rfl
section
variable {H : Type} {enc : TypeId × Value → H} {W : World} {base : Nat} {held : Bool}
noncomputable abbrev TR (enc : TypeId × Value → H) (W : World) (base : Nat) (held : Bool) (n : Nat) (t : TypeId) (cs : List Value) : Option (DataW H × List MemPlace) := DataW.trod enc Try.prog W base (fun _ => true) held n t cs
/-- One cell of a struct's cells. -/
theorem one_cell {cs : List Value} {o : Nat} (hl : o < cs.length) : (cs.drop o).take 1 = [cs[o]] := by
  rw [List.drop_eq_getElem_cons hl]
  rfl
/-- A field of a struct. -/
theorem field_of {t : TypeId} {fs : Array Field} {n : Nat} {cs : List Value} {x : DataW H × List MemPlace} (ht : Try.prog.underlying t = some (.struct fs)) (h : TR enc W base held n t cs = some x) (j : Nat) (f : Field) (hj : fs[j]? = some f) :
    ∃ m y, TR enc W base held m f.type ((cs.drop f.offset).take (Try.prog.cellsOf f.type)) = some y := by
  obtain ⟨xs, m, _, _, _, hlen, hf⟩ := DataW.trod_struct ht h
  have := hf j f hj
  have hjl : j < xs.length := by rw [hlen]; exact (Array.getElem?_eq_some_iff.1 hj).1
  rw [List.getElem?_eq_getElem hjl] at this
  exact ⟨m, _, this⟩
theorem cell_int {n o : Nat} {cs : List Value} {y : DataW H × List MemPlace} (h : TR enc W base held n 3 ((cs.drop o).take (Try.prog.cellsOf 3)) = some y) : ∃ k, cs[o]? = some (.int .i64 k) := by
  obtain ⟨k, e, _⟩ := DataW.trod_int Try.underlying3 h
  rw [c_int] at e
  exact ⟨k, get_of_one e⟩
theorem cell_str {n o : Nat} {cs : List Value} {y : DataW H × List MemPlace} (h : TR enc W base held n 9 ((cs.drop o).take (Try.prog.cellsOf 9)) = some y) : ∃ k, cs[o]? = some (.string k) := by
  obtain ⟨k, e, _⟩ := DataW.trod_string Try.underlying9 h
  rw [c_string] at e
  exact ⟨k, get_of_one e⟩
/-- A cell that holds a slice. -/
theorem cell_slice {t e : TypeId} {n o : Nat} {cs : List Value} {y : DataW H × List MemPlace} (ht : Try.prog.underlying t = some (.slice e)) (hc : Try.prog.cellsOf t = 1) (h : TR enc W base held n t ((cs.drop o).take (Try.prog.cellsOf t)) = some y) :
    ∃ v, cs[o]? = some v ∧ TR enc W base held n t [v] = some y := by
  rw [hc] at h
  cases ho : cs[o]? with
  | none =>
    have hlen : cs.length ≤ o := by
      rcases Nat.lt_or_ge o cs.length with hl | hl
      · rw [List.getElem?_eq_getElem hl] at ho; cases ho
      · exact hl
    rw [List.drop_of_length_le hlen] at h
    rcases open_slice ht h with ⟨hcs, _⟩ | ⟨_, _, _, _, _, _, _, hcs, _⟩ <;> cases hcs
  | some v =>
    obtain ⟨hl, hv⟩ := List.getElem?_eq_some_iff.1 ho
    rw [one_cell hl, hv] at h
    exact ⟨v, rfl, h⟩
theorem cells2 {cs : List Value} {a b : Value} (hl : cs.length = 2) (h0 : cs[0]? = some a) (h1 : cs[1]? = some b) : cs = [a, b] := by
  match cs, hl with
  | [z0, z1], _ =>
    simp only [List.getElem?_cons_zero, List.getElem?_cons_succ, Option.some.injEq] at h0 h1
    rw [h0, h1]
theorem cells4 {cs : List Value} {a b c d : Value} (hl : cs.length = 4) (h0 : cs[0]? = some a) (h1 : cs[1]? = some b) (h2 : cs[2]? = some c) (h3 : cs[3]? = some d) : cs = [a, b, c, d] := by
  match cs, hl with
  | [z0, z1, z2, z3], _ =>
    simp only [List.getElem?_cons_zero, List.getElem?_cons_succ, Option.some.injEq] at h0 h1 h2 h3
    rw [h0, h1, h2, h3]
theorem cells6 {cs : List Value} {a b c d e f : Value} (hl : cs.length = 6) (h0 : cs[0]? = some a) (h1 : cs[1]? = some b) (h2 : cs[2]? = some c) (h3 : cs[3]? = some d) (h4 : cs[4]? = some e) (h5 : cs[5]? = some f) : cs = [a, b, c, d, e, f] := by
  match cs, hl with
  | [z0, z1, z2, z3, z4, z5], _ =>
    simp only [List.getElem?_cons_zero, List.getElem?_cons_succ, Option.some.injEq] at h0 h1 h2 h3 h4 h5
    rw [h0, h1, h2, h3, h4, h5]
theorem spans_of {n : Nat} {v : Value} {x : DataW H × List MemPlace} (h : TR enc W base held n 31 [v] = some x) : ∃ l, LR 2 spC W v l :=
  listR_of Try.underlying31 c_sp (by decide) h fun n cs y hl hy => by
    obtain ⟨_, _, h0⟩ := field_of Try.underlying61 hy 0 _ rfl
    obtain ⟨_, _, h1⟩ := field_of Try.underlying61 hy 1 _ rfl
    obtain ⟨k0, e0⟩ := cell_int (o := 0) h0
    obtain ⟨k1, e1⟩ := cell_int (o := 1) h1
    exact ⟨⟨k0, k1⟩, cells2 hl e0 e1⟩
theorem marks_of {n : Nat} {v : Value} {x : DataW H × List MemPlace} (h : TR enc W base held n 29 [v] = some x) : ∃ l, LR 4 mkC W v l :=
  listR_of Try.underlying29 c_mk (by decide) h fun n cs y hl hy => by
    obtain ⟨_, _, h0⟩ := field_of Try.underlying66 hy 0 _ rfl
    obtain ⟨_, _, h1⟩ := field_of Try.underlying66 hy 1 _ rfl
    obtain ⟨_, _, h2⟩ := field_of Try.underlying66 hy 2 _ rfl
    obtain ⟨_, _, h3⟩ := field_of Try.underlying66 hy 3 _ rfl
    obtain ⟨k0, e0⟩ := cell_str (o := 0) h0
    obtain ⟨k1, e1⟩ := cell_int (o := 1) h1
    obtain ⟨k2, e2⟩ := cell_int (o := 2) h2
    obtain ⟨k3, e3⟩ := cell_int (o := 3) h3
    exact ⟨⟨k0, k1, k2, k3⟩, cells4 hl e0 e1 e2 e3⟩
theorem lines_of {n : Nat} {v : Value} {x : DataW H × List MemPlace} (h : TR enc W base held n 30 [v] = some x) : ∃ l, LR 4 lnC W v l :=
  listR_of Try.underlying30 c_ln (by decide) h fun n cs y hl hy => by
    obtain ⟨_, _, h0⟩ := field_of Try.underlying74 hy 0 _ rfl
    obtain ⟨_, _, h1⟩ := field_of Try.underlying74 hy 1 _ rfl
    obtain ⟨_, _, h2⟩ := field_of Try.underlying74 hy 2 _ rfl
    obtain ⟨_, _, h3⟩ := field_of Try.underlying74 hy 3 _ rfl
    obtain ⟨k0, e0⟩ := cell_int (o := 0) h0
    obtain ⟨k1, e1⟩ := cell_int (o := 1) h1
    obtain ⟨k2, e2⟩ := cell_str (o := 2) h2
    obtain ⟨k3, e3⟩ := cell_int (o := 3) h3
    exact ⟨⟨k0, k1, k2, k3⟩, cells4 hl e0 e1 e2 e3⟩
theorem inlines_of {n : Nat} {v : Value} {x : DataW H × List MemPlace} (h : TR enc W base held n 32 [v] = some x) : ∃ l, LR 6 ilC W v l :=
  listR_of Try.underlying32 c_il (by decide) h fun n cs y hl hy => by
    obtain ⟨_, _, h0⟩ := field_of Try.underlying57 hy 0 _ rfl
    obtain ⟨_, _, h1⟩ := field_of Try.underlying57 hy 1 _ rfl
    obtain ⟨_, _, h2⟩ := field_of Try.underlying57 hy 2 _ rfl
    obtain ⟨_, _, h3⟩ := field_of Try.underlying57 hy 3 _ rfl
    obtain ⟨_, _, h4⟩ := field_of Try.underlying57 hy 4 _ rfl
    obtain ⟨_, _, h5⟩ := field_of Try.underlying57 hy 5 _ rfl
    obtain ⟨k0, e0⟩ := cell_int (o := 0) h0
    obtain ⟨k1, e1⟩ := cell_int (o := 1) h1
    obtain ⟨k2, e2⟩ := cell_int (o := 2) h2
    obtain ⟨k3, e3⟩ := cell_str (o := 3) h3
    obtain ⟨k4, e4⟩ := cell_str (o := 4) h4
    obtain ⟨k5, e5⟩ := cell_int (o := 5) h5
    exact ⟨⟨k0, k1, k2, k3, k4, k5⟩, cells6 hl e0 e1 e2 e3 e4 e5⟩
theorem vars_of {n : Nat} {v : Value} {x : DataW H × List MemPlace} (h : TR enc W base held n 33 [v] = some x) : ∃ l, LR 6 vrC W v l :=
  listR_of Try.underlying33 c_vr (by decide) h fun n cs y hl hy => by
    obtain ⟨_, _, h0⟩ := field_of Try.underlying55 hy 0 _ rfl
    obtain ⟨_, _, h1⟩ := field_of Try.underlying55 hy 1 _ rfl
    obtain ⟨_, _, h2⟩ := field_of Try.underlying55 hy 2 _ rfl
    obtain ⟨_, _, h3⟩ := field_of Try.underlying55 hy 3 _ rfl
    obtain ⟨_, _, h4⟩ := field_of Try.underlying55 hy 4 _ rfl
    obtain ⟨_, _, h5⟩ := field_of Try.underlying55 hy 5 _ rfl
    obtain ⟨k0, e0⟩ := cell_int (o := 0) h0
    obtain ⟨k1, e1⟩ := cell_int (o := 1) h1
    obtain ⟨k2, e2⟩ := cell_int (o := 2) h2
    obtain ⟨k3, e3⟩ := cell_str (o := 3) h3
    obtain ⟨k4, e4⟩ := cell_int (o := 4) h4
    obtain ⟨k5, e5⟩ := cell_int (o := 5) h5
    exact ⟨⟨k0, k1, k2, k3, k4, k5⟩, cells6 hl e0 e1 e2 e3 e4 e5⟩
theorem get_info {cs : List Value} {o : Nat} {v : Value} (h : ((cs.drop 19).take 6)[o]? = some v) : cs[19 + o]? = some v := by
  rw [List.getElem?_take] at h
  split at h
  · rw [List.getElem?_drop] at h; exact h
  · cases h
theorem inf_of {n : Nat} {cs : List Value} {y : DataW H × List MemPlace} (hl : cs.length = 26) (h : TR enc W base held n 39 cs = some y) : ∃ inf, InfC W cs inf := by
  have hone := h
  obtain ⟨_, _, h19⟩ := field_of Try.underlying39 h 19 _ rfl
  change TR enc W base held _ 36 ((cs.drop 19).take (Try.prog.cellsOf 36)) = _ at h19
  rw [c_inf] at h19
  obtain ⟨_, _, h0⟩ := field_of Try.underlying36 h19 0 _ rfl
  obtain ⟨v0, e0, h0⟩ := cell_slice (o := 0) Try.underlying29 c_marks h0
  obtain ⟨l0, q0⟩ := marks_of h0
  obtain ⟨_, _, h1⟩ := field_of Try.underlying36 h19 1 _ rfl
  obtain ⟨v1, e1, h1⟩ := cell_slice (o := 1) Try.underlying30 c_lines h1
  obtain ⟨l1, q1⟩ := lines_of h1
  obtain ⟨_, _, h2⟩ := field_of Try.underlying36 h19 2 _ rfl
  obtain ⟨v2, e2, h2⟩ := cell_slice (o := 2) Try.underlying31 c_spans h2
  obtain ⟨l2, q2⟩ := spans_of h2
  obtain ⟨_, _, h3⟩ := field_of Try.underlying36 h19 3 _ rfl
  obtain ⟨v3, e3, h3⟩ := cell_slice (o := 3) Try.underlying32 c_inlines h3
  obtain ⟨l3, q3⟩ := inlines_of h3
  obtain ⟨_, _, h4⟩ := field_of Try.underlying36 h19 4 _ rfl
  obtain ⟨v4, e4, h4⟩ := cell_slice (o := 4) Try.underlying33 c_vars h4
  obtain ⟨l4, q4⟩ := vars_of h4
  exact ⟨⟨l0, l1, l2, l3, l4⟩, hl, ⟨v0, get_info e0, q0⟩, ⟨v1, get_info e1, q1⟩, ⟨v2, get_info e2, q2⟩, ⟨v3, get_info e3, q3⟩, ⟨v4, get_info e4, q4⟩, trod_one 6 _ (by kernel_rfl) _ _ _ hone⟩
end
end Go.Proofs.Ytcgapppamhffjaa
