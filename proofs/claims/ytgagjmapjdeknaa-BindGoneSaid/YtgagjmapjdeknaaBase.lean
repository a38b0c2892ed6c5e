/- Bind: how modules lie in memory, and what came in. -/
import Derived.Test.YtgagjmapjdeknaaTypes
import Derived.Test.YtgagjmapjdeknaaList
import Derived.Test.YtgagjmapjdeknaaOne
import Derived.Test.YtgagjmapjdeknaaMap
import Derived.Test.YtgagjmapjdeknaaStr
import Derived.Test.YtgagjmapjdeknaaRange
import Derived.Test.YtgagjmapjdeknaaSpec
namespace Go.Proofs.Ytgagjmapjdeknaa
open Go.RowKit Go.XK Go.BindLaw Go.ChangeShapes Go.WideShapes Go.ChangeAt Go.Deep

def Strs (w : World) (v : Value) (l : List ByteArray) : Prop := ListR w 1 v (fun cs s => cs = [.string s]) l
def Ints (w : World) (v : Value) (l : List Int) : Prop := ListR w 1 v (fun cs n => cs = [.int .i64 n]) l
def VdC (w : World) (cs : List Value) (d : Vd) : Prop := ∃ pv, cs = [.string d.name, pv] ∧ Strs w pv d.parents
def Vds (w : World) (v : Value) (l : List Vd) : Prop := ListR w 2 v (VdC w) l
def ExC (cs : List Value) (x : Ex) : Prop := cs.length = 6 ∧ cs[0]? = some (.string x.name) ∧ cs[1]? = some (.string x.version) ∧ cs[2]? = some (.bool x.main) ∧ cs[4]? = some (.int .i64 x.at_) ∧ ∀ q ∈ cs, q.oneCell' = true
def Exs (w : World) (v : Value) (l : List Ex) : Prop := ListR w 6 v ExC l
/-- An image, of which only the exports and versions are told. -/
def ImC (w : World) (cs : List Value) (ex : List Ex) (vd : List Vd) : Prop := ∃ ev vv, cs[9]? = some ev ∧ Exs w ev ex ∧ cs[18]? = some vv ∧ Vds w vv vd
def MoC (w : World) (cs : List Value) (m : Mo) : Prop := cs.length = 32 ∧ ImC w cs m.exports m.versions ∧ cs[26]? = some (.int .i64 m.base) ∧ cs[27]? = some (.int .i64 m.space) ∧ (∃ nv, cs[29]? = some nv ∧ Ints w nv m.needs) ∧ cs[30]? = some (.bool m.gone) ∧ cs[31]? = some (.int .i64 m.root) ∧ ∀ q ∈ cs, q.oneCell' = true
def Mods (w : World) (v : Value) (l : List Mo) : Prop := ListR w 32 v (MoC w) l
theorem Strs.ext {w w' : World} {v : Value} {l : List ByteArray} (h : Strs w v l) (he : Ext w w') : Strs w' v l := h.mono he fun _ _ h => h
theorem Ints.ext {w w' : World} {v : Value} {l : List Int} (h : Ints w v l) (he : Ext w w') : Ints w' v l := h.mono he fun _ _ h => h
theorem VdC.ext {w w' : World} {cs : List Value} {d : Vd} (h : VdC w cs d) (he : Ext w w') : VdC w' cs d := by
  obtain ⟨pv, h1, h2⟩ := h
  exact ⟨pv, h1, h2.ext he⟩
theorem Vds.ext {w w' : World} {v : Value} {l : List Vd} (h : Vds w v l) (he : Ext w w') : Vds w' v l := h.mono he fun _ _ h => h.ext he
theorem Exs.ext {w w' : World} {v : Value} {l : List Ex} (h : Exs w v l) (he : Ext w w') : Exs w' v l := h.mono he fun _ _ h => h
theorem ImC.ext {w w' : World} {cs : List Value} {ex : List Ex} {vd : List Vd} (h : ImC w cs ex vd) (he : Ext w w') : ImC w' cs ex vd := by
  obtain ⟨ev, vv, h1, h2, h3, h4⟩ := h
  exact ⟨ev, vv, h1, h2.ext he, h3, h4.ext he⟩
theorem MoC.ext {w w' : World} {cs : List Value} {m : Mo} (h : MoC w cs m) (he : Ext w w') : MoC w' cs m := by
  obtain ⟨h0, h1, h2, h3, ⟨nv, h4, h5⟩, h6⟩ := h
  exact ⟨h0, h1.ext he, h2, h3, ⟨nv, h4, h5.ext he⟩, h6⟩
theorem Mods.ext {w w' : World} {v : Value} {l : List Mo} (h : Mods w v l) (he : Ext w w') : Mods w' v l := h.mono he fun _ _ h => h.ext he

theorem Strs.isS {w : World} {v : Value} {l : List ByteArray} (h : Strs w v l) : IsS v l.length := ListR.isS h
theorem Strs.isE {w : World} {v : Value} {l : List ByteArray} (h : Strs w v l) (hn : 0 < l.length) : IsE v l.length := ListR.isE h hn
theorem Strs.max {w : World} {v : Value} {l : List ByteArray} (h : Strs w v l) : l.length ≤ maxLen := ListR.max h
theorem Strs.cell {w : World} {v : Value} {l : List ByteArray} (h : Strs w v l) {i : Nat} (hi : i < l.length) : w.cell? ⟨blk v, ofs v + i * 1, none⟩ = some (.string l[i]) := by
  obtain ⟨cs, _, h2, rfl⟩ := ListR.elem h hi
  exact h2 0 _ rfl
theorem Ints.isS {w : World} {v : Value} {l : List Int} (h : Ints w v l) : IsS v l.length := ListR.isS h
theorem Ints.isE {w : World} {v : Value} {l : List Int} (h : Ints w v l) (hn : 0 < l.length) : IsE v l.length := ListR.isE h hn
theorem Ints.max {w : World} {v : Value} {l : List Int} (h : Ints w v l) : l.length ≤ maxLen := ListR.max h
theorem Ints.cell {w : World} {v : Value} {l : List Int} (h : Ints w v l) {i : Nat} (hi : i < l.length) : w.cell? ⟨blk v, ofs v + i * 1, none⟩ = some (.int .i64 l[i]) := by
  obtain ⟨cs, _, h2, rfl⟩ := ListR.elem h hi
  exact h2 0 _ rfl
theorem Strs.of_own {w : World} {base : Nat} {e : TypeId} {v : Value} {l : List ByteArray} (h : w.ownsRow base e 1 v l.length (l.map Value.string)) : Strs w v l := ListR.of_lits (Reads.of_own h)
theorem Ints.of_own {w : World} {base : Nat} {e : TypeId} {v : Value} {l : List Int} (h : w.ownsRow base e 1 v l.length (l.map (Value.int .i64))) : Ints w v l := ListR.of_lits (Reads.of_own h)
theorem strs_one (l : List ByteArray) : ∀ q ∈ l.map Value.string, q.oneCell' = true := fun q hq => by
  obtain ⟨s, _, rfl⟩ := List.mem_map.1 hq
  rfl
theorem ints_one (l : List Int) : ∀ q ∈ l.map (Value.int .i64), q.oneCell' = true := fun q hq => by
  obtain ⟨s, _, rfl⟩ := List.mem_map.1 hq
  rfl
theorem ListR.one {β : Type} {w : World} {K : Nat} {v : Value} {Q : List Value → β → Prop} {bs : List β} (h : ListR w K v Q bs) : v.oneCell' = true := by
  obtain ⟨a, c, rfl, _⟩ := h.isS
  rfl
theorem Strs.one {w : World} {v : Value} {l : List ByteArray} (h : Strs w v l) : v.oneCell' = true := ListR.one h
theorem vd_one {s : ByteArray} {pv : Value} (h : pv.oneCell' = true) : (Value.agg #[.string s, pv]).cells.toList.all (·.oneCell') = true := by
  show ((Value.string s).oneCell' && (pv.oneCell' && true)) = true
  rw [h]
  rfl
theorem Vds.isS {w : World} {v : Value} {l : List Vd} (h : Vds w v l) : IsS v l.length := ListR.isS h
theorem Vds.isE {w : World} {v : Value} {l : List Vd} (h : Vds w v l) (hn : 0 < l.length) : IsE v l.length := ListR.isE h hn
theorem Vds.max {w : World} {v : Value} {l : List Vd} (h : Vds w v l) : l.length ≤ maxLen := ListR.max h
theorem Vds.name {w : World} {v : Value} {l : List Vd} (h : Vds w v l) {i : Nat} (hi : i < l.length) : w.cell? ⟨blk v, ofs v + i * 2 + 0, none⟩ = some (.string l[i].name) := by
  obtain ⟨cs, _, h2, pv, rfl, _⟩ := ListR.elem h hi
  exact h2 0 _ rfl
theorem Vds.elem {w : World} {v : Value} {l : List Vd} (h : Vds w v l) {i : Nat} (hi : i < l.length) : ∃ pv, At w (blk v) (ofs v + i * 2) [.string l[i].name, pv] ∧ Strs w pv l[i].parents := by
  obtain ⟨cs, _, h2, pv, rfl, h3⟩ := ListR.elem h hi
  exact ⟨pv, h2, h3⟩
/-! ### What came in -/
theorem c_int : Try.prog.cellsOf 3 = 1 := by kernel_rfl
theorem c_bool : Try.prog.cellsOf 4 = 1 := by kernel_rfl
theorem c_string : Try.prog.cellsOf 9 = 1 := by kernel_rfl
theorem c_vd : Try.prog.cellsOf 68 = 2 := by kernel_rfl
theorem c_ex : Try.prog.cellsOf 62 = 6 := by kernel_rfl
theorem c_im : Try.prog.cellsOf 54 = 26 := by kernel_rfl
theorem c_mo : Try.prog.cellsOf 56 = 32 := by kernel_rfl
theorem c_strs : Try.prog.cellsOf 42 = 1 := by kernel_rfl
theorem c_ints : Try.prog.cellsOf 28 = 1 := by kernel_rfl
theorem c_exs : Try.prog.cellsOf 39 = 1 := by kernel_rfl
theorem c_vds : Try.prog.cellsOf 43 = 1 := by kernel_rfl
section
variable {H : Type} {enc : TypeId × Value → H} {W : World} {base : Nat} {held : Bool}
noncomputable abbrev TR (enc : TypeId × Value → H) (W : World) (base : Nat) (held : Bool) (n : Nat) (t : TypeId) (cs : List Value) : Option (DataW H × List MemPlace) := DataW.trod enc Try.prog W base (fun _ => true) held n t cs
theorem strs_of {n : Nat} {v : Value} {x : DataW H × List MemPlace} (h : TR enc W base held n 42 [v] = some x) : ∃ l, Strs W v l :=
  listR_of Try.underlying42 c_string (by decide) h fun n cs y hl hy => by
    obtain ⟨s, rfl, _⟩ := DataW.trod_string Try.underlying9 hy
    exact ⟨s, rfl⟩
theorem ints_of {n : Nat} {v : Value} {x : DataW H × List MemPlace} (h : TR enc W base held n 28 [v] = some x) : ∃ l, Ints W v l :=
  listR_of Try.underlying28 c_int (by decide) h fun n cs y hl hy => by
    obtain ⟨s, rfl, _⟩ := DataW.trod_int Try.underlying3 hy
    exact ⟨s, rfl⟩
/-- One cell of a struct's cells. -/
theorem one_cell {cs : List Value} {o : Nat} (hl : o < cs.length) : (cs.drop o).take 1 = [cs[o]] := by
  rw [List.drop_eq_getElem_cons hl]
  rfl
/-- A field of a struct. -/
theorem field_of {t : TypeId} {fs : Array Field} {n : Nat} {cs : List Value} {x : DataW H × List MemPlace} (ht : Try.prog.underlying t = some (.struct fs)) (h : TR enc W base held n t cs = some x) (j : Nat) (f : Field) (hj : fs[j]? = some f) :
    ∃ m y, TR enc W base held m f.type ((cs.drop f.offset).take (Try.prog.cellsOf f.type)) = some y := by
  obtain ⟨xs, m, _, _, _, hlen, hf⟩ := DataW.trod_struct ht h
  have := hf j f hj
  have hjl : j < xs.length := by rw [hlen]; exact (Array.getElem?_eq_some_iff.1 hj).1
  rw [List.getElem?_eq_getElem hjl] at this
  exact ⟨m, _, this⟩
theorem get_drop {cs : List Value} {o : Nat} {u : Value} (h : (cs.drop o).take 1 = [u]) : cs[o]? = some u := get_of_one h
theorem len_of {cs : List Value} {o : Nat} {u : Value} (h : (cs.drop o).take 1 = [u]) : o < cs.length := (List.getElem?_eq_some_iff.1 (get_of_one h)).1
theorem cell_int {n o : Nat} {cs : List Value} {y : DataW H × List MemPlace} (h : TR enc W base held n 3 ((cs.drop o).take (Try.prog.cellsOf 3)) = some y) : ∃ k, cs[o]? = some (.int .i64 k) := by
  obtain ⟨k, e, _⟩ := DataW.trod_int Try.underlying3 h
  rw [c_int] at e
  exact ⟨k, get_of_one e⟩
theorem cell_bool {n o : Nat} {cs : List Value} {y : DataW H × List MemPlace} (h : TR enc W base held n 4 ((cs.drop o).take (Try.prog.cellsOf 4)) = some y) : ∃ k, cs[o]? = some (.bool k) := by
  obtain ⟨k, e, _⟩ := DataW.trod_bool Try.underlying4 h
  rw [c_bool] at e
  exact ⟨k, get_of_one e⟩
theorem cell_str {n o : Nat} {cs : List Value} {y : DataW H × List MemPlace} (h : TR enc W base held n 9 ((cs.drop o).take (Try.prog.cellsOf 9)) = some y) : ∃ k, cs[o]? = some (.string k) := by
  obtain ⟨k, e, _⟩ := DataW.trod_string Try.underlying9 h
  rw [c_string] at e
  exact ⟨k, get_of_one e⟩
/-- A cell that holds a slice. -/
theorem cell_slice {t e : TypeId} {n o : Nat} {cs : List Value} {y : DataW H × List MemPlace} (ht : Try.prog.underlying t = some (.slice e)) (hc : Try.prog.cellsOf t = 1) (h : TR enc W base held n t ((cs.drop o).take (Try.prog.cellsOf t)) = some y) :
    ∃ v, cs[o]? = some v ∧ TR enc W base held n t [v] = some y := by
  rw [hc] at h
  cases ho : cs[o]? with
  | none =>
    have hlen : cs.length ≤ o := by
      rcases Nat.lt_or_ge o cs.length with hl | hl
      · rw [List.getElem?_eq_getElem hl] at ho; cases ho
      · exact hl
    rw [List.drop_of_length_le hlen] at h
    rcases open_slice ht h with ⟨hcs, _⟩ | ⟨_, _, _, _, _, _, _, hcs, _⟩ <;> cases hcs
  | some v =>
    obtain ⟨hl, hv⟩ := List.getElem?_eq_some_iff.1 ho
    rw [one_cell hl, hv] at h
    exact ⟨v, rfl, h⟩
theorem two_cells {cs : List Value} {u v : Value} (hl : cs.length = 2) (h0 : cs[0]? = some u) (h1 : cs[1]? = some v) : cs = [u, v] := by
  match cs, hl with
  | [a, b], _ =>
    simp only [List.getElem?_cons_zero, List.getElem?_cons_succ, Option.some.injEq] at h0 h1
    rw [h0, h1]
theorem vds_of {n : Nat} {v : Value} {x : DataW H × List MemPlace} (h : TR enc W base held n 43 [v] = some x) : ∃ l, Vds W v l :=
  listR_of Try.underlying43 c_vd (by decide) h fun n cs y hl hy => by
    obtain ⟨_, _, h0⟩ := field_of Try.underlying68 hy 0 _ rfl
    obtain ⟨_, _, h1⟩ := field_of Try.underlying68 hy 1 _ rfl
    obtain ⟨s, e0⟩ := cell_str (o := 0) h0
    obtain ⟨pv, e1, h1⟩ := cell_slice (o := 1) Try.underlying42 c_strs h1
    obtain ⟨ps, hp⟩ := strs_of h1
    refine ⟨⟨s, ps⟩, pv, ?_, hp⟩
    exact two_cells hl e0 e1
theorem exs_of {n : Nat} {v : Value} {x : DataW H × List MemPlace} (h : TR enc W base held n 39 [v] = some x) : ∃ l, Exs W v l :=
  listR_of Try.underlying39 c_ex (by decide) h fun n cs y hl hy => by
    obtain ⟨_, _, h0⟩ := field_of Try.underlying62 hy 0 _ rfl
    obtain ⟨_, _, h1⟩ := field_of Try.underlying62 hy 1 _ rfl
    obtain ⟨_, _, h2⟩ := field_of Try.underlying62 hy 2 _ rfl
    obtain ⟨_, _, h4⟩ := field_of Try.underlying62 hy 4 _ rfl
    obtain ⟨s, e0⟩ := cell_str (o := 0) h0
    obtain ⟨t, e1⟩ := cell_str (o := 1) h1
    obtain ⟨b, e2⟩ := cell_bool (o := 2) h2
    obtain ⟨k, e4⟩ := cell_int (o := 4) h4
    exact ⟨⟨s, t, b, k⟩, hl, e0, e1, e2, e4, trod_one 2 _ (by kernel_rfl) _ _ _ hy⟩
theorem im_of {n : Nat} {cs : List Value} {y : DataW H × List MemPlace} (h : TR enc W base held n 54 cs = some y) : ∃ ex vd, ImC W cs ex vd := by
  obtain ⟨_, _, h9⟩ := field_of Try.underlying54 h 9 _ rfl
  obtain ⟨_, _, h18⟩ := field_of Try.underlying54 h 18 _ rfl
  obtain ⟨ev, e9, h9⟩ := cell_slice (o := 9) Try.underlying39 c_exs h9
  obtain ⟨vv, e18, h18⟩ := cell_slice (o := 18) Try.underlying43 c_vds h18
  obtain ⟨ex, hex⟩ := exs_of h9
  obtain ⟨vd, hvd⟩ := vds_of h18
  exact ⟨ex, vd, ev, vv, e9, hex, e18, hvd⟩
theorem mo_of {n : Nat} {cs : List Value} {y : DataW H × List MemPlace} (hl : cs.length = 32) (h : TR enc W base held n 56 cs = some y) : ∃ m, MoC W cs m := by
  have hone := h
  obtain ⟨_, _, h0⟩ := field_of Try.underlying56 h 0 _ rfl
  obtain ⟨_, _, h1⟩ := field_of Try.underlying56 h 1 _ rfl
  obtain ⟨_, _, h2⟩ := field_of Try.underlying56 h 2 _ rfl
  obtain ⟨_, _, h4⟩ := field_of Try.underlying56 h 4 _ rfl
  obtain ⟨_, _, h5⟩ := field_of Try.underlying56 h 5 _ rfl
  obtain ⟨_, _, h6⟩ := field_of Try.underlying56 h 6 _ rfl
  have e : (cs.drop 0).take (Try.prog.cellsOf 54) = cs.take 26 := by rw [c_im, List.drop_zero]
  change TR enc W base held _ 54 ((cs.drop 0).take (Try.prog.cellsOf 54)) = _ at h0
  rw [e] at h0
  obtain ⟨ex, vd, ev, vv, i1, i2, i3, i4⟩ := im_of h0
  rw [List.getElem?_take] at i1 i3
  obtain ⟨b, e1⟩ := cell_int (o := 26) h1
  obtain ⟨sp, e2⟩ := cell_int (o := 27) h2
  obtain ⟨nv, e4, h4⟩ := cell_slice (o := 29) Try.underlying28 c_ints h4
  obtain ⟨gn, e5⟩ := cell_bool (o := 30) h5
  obtain ⟨rt, e6⟩ := cell_int (o := 31) h6
  obtain ⟨ns, hns⟩ := ints_of h4
  exact ⟨⟨ns, b, sp, rt, gn, ex, vd⟩, hl, ⟨ev, vv, i1, i2, i3, i4⟩, e1, e2, ⟨nv, e4, hns⟩, e5, e6, trod_one 4 _ (by kernel_rfl) _ _ _ hone⟩
theorem mods_of {n : Nat} {v : Value} {x : DataW H × List MemPlace} (h : TR enc W base held n 22 [v] = some x) : ∃ l, Mods W v l :=
  listR_of Try.underlying22 c_mo (by decide) h fun n cs y hl hy => mo_of hl hy
end
end Go.Proofs.Ytgagjmapjdeknaa
