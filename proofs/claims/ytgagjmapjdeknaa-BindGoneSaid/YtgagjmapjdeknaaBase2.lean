/- Bind: the fields of modules in memory. -/
import Derived.Test.YtgagjmapjdeknaaW5
import Derived.Test.YtgagjmapjdeknaaIter
import Derived.Test.YtgagjmapjdeknaaSpec2
namespace Go.Proofs.Ytgagjmapjdeknaa
open Go.RowKit Go.XK Go.BindLaw

theorem Mods.isS {w : World} {v : Value} {l : List Mo} (h : Mods w v l) : IsS v l.length := ListR.isS h
theorem Mods.isS3 {w : World} {v : Value} {l : List Mo} (h : Mods w v l) : ∃ a n c, v = .slice a n c := by
  obtain ⟨a, c, e, _⟩ := Mods.isS h
  exact ⟨a, _, c, e⟩
theorem Mods.isE {w : World} {v : Value} {l : List Mo} (h : Mods w v l) (hn : 0 < l.length) : IsE v l.length := ListR.isE h hn
theorem Mods.max {w : World} {v : Value} {l : List Mo} (h : Mods w v l) : l.length ≤ maxLen := ListR.max h
theorem Mods.elem {w : World} {v : Value} {ms : List Mo} (h : Mods w v ms) {x : Int} (hx : InR ms x) : ∃ cs, cs.length = 32 ∧ At w (blk v) (ofs v + x.toNat * 32) cs ∧ MoC w cs (moAt ms x) := by
  obtain ⟨h', he⟩ := hx.get
  obtain ⟨cs, h1, h2, h3⟩ := ListR.elem h h'
  rw [he]
  exact ⟨cs, h1, h2, h3⟩
theorem Mods.base {w : World} {v : Value} {ms : List Mo} (h : Mods w v ms) {x : Int} (hx : InR ms x) : w.cell? ⟨blk v, ofs v + x.toNat * 32 + 26, none⟩ = some (.int .i64 (moAt ms x).base) := by
  obtain ⟨cs, _, h2, h3⟩ := h.elem hx
  exact h2 _ _ h3.2.2.1
theorem Mods.space {w : World} {v : Value} {ms : List Mo} (h : Mods w v ms) {x : Int} (hx : InR ms x) : w.cell? ⟨blk v, ofs v + x.toNat * 32 + 27, none⟩ = some (.int .i64 (moAt ms x).space) := by
  obtain ⟨cs, _, h2, h3⟩ := h.elem hx
  exact h2 _ _ h3.2.2.2.1
theorem Mods.needs {w : World} {v : Value} {ms : List Mo} (h : Mods w v ms) {x : Int} (hx : InR ms x) : ∃ nv, w.cell? ⟨blk v, ofs v + x.toNat * 32 + 29, none⟩ = some nv ∧ Ints w nv (moAt ms x).needs := by
  obtain ⟨cs, _, h2, h3⟩ := h.elem hx
  obtain ⟨nv, h4, h5⟩ := h3.2.2.2.2.1
  exact ⟨nv, h2 _ _ h4, h5⟩
theorem Mods.gone {w : World} {v : Value} {ms : List Mo} (h : Mods w v ms) {x : Int} (hx : InR ms x) : w.cell? ⟨blk v, ofs v + x.toNat * 32 + 30, none⟩ = some (.bool (moAt ms x).gone) := by
  obtain ⟨cs, _, h2, h3⟩ := h.elem hx
  exact h2 _ _ h3.2.2.2.2.2.1
theorem Mods.root {w : World} {v : Value} {ms : List Mo} (h : Mods w v ms) {x : Int} (hx : InR ms x) : w.cell? ⟨blk v, ofs v + x.toNat * 32 + 31, none⟩ = some (.int .i64 (moAt ms x).root) := by
  obtain ⟨cs, _, h2, h3⟩ := h.elem hx
  exact h2 _ _ h3.2.2.2.2.2.2.1
theorem Mods.inR {w : World} {v : Value} {ms : List Mo} (_ : Mods w v ms) {k : Nat} (h : k < ms.length) : InR ms (k : Int) := ⟨by omega, by omega⟩
/-- A set of the rounds and a block of the iterator's own. -/
theorem q_first {w : World} {base : Nat} {e : TypeId} {v : Value} {n : Nat} {l : List Int} (h : OwnQ w base e 1 v n (l.map (Value.int .i64))) (hn : 0 < l.length) : w.cell? ⟨blk v, ofs v, none⟩ = some (.int .i64 l[0]) := by
  have hl : n = l.length := by have := h.1; simpa using this.symm
  have := Reads.atB h.reads (by omega) 0 (.int .i64 l[0]) (by simp [hn])
  rwa [Nat.add_zero] at this
theorem q_at {w : World} {base : Nat} {e : TypeId} {v : Value} {n i : Nat} {l : List Int} (h : OwnQ w base e 1 v n ((l.drop i).map (Value.int .i64))) (hi : i < l.length) : w.cell? ⟨blk v, ofs v, none⟩ = some (.int .i64 l[i]) := by
  have := q_first h (by rw [List.length_drop]; omega)
  rw [this]
  simp
/-- The cells of a module that is copied. -/
theorem mo_sz {cs : List Value} (hl : cs.length = 32) : (Try.prog.info? 56).map (·.size) = some (Value.agg cs.toArray).cells.size := by
  rw [show (Value.agg cs.toArray).cells.size = 32 by simpa [Value.cells] using hl]
  kernel_rfl
theorem mo_len {cs old : List Value} (hl : cs.length = 32) (ho : old.length = 32) : old.length = (Value.agg cs.toArray).cells.size := by
  rw [ho]
  simpa [Value.cells] using hl.symm
theorem mo_one {cs : List Value} (h : ∀ q ∈ cs, q.oneCell' = true) : (Value.agg cs.toArray).cells.toList.all (·.oneCell') = true := by
  rw [List.all_eq_true]
  intro q hq
  exact h q (by simpa [Value.cells] using hq)
theorem map_get (l : List Int) (k : Nat) (h : k < (l.map fun y => [Value.int .i64 y]).length) : (l.map fun y => [Value.int .i64 y])[k] = [.int .i64 (l.getD k 0)] := by
  have h' : k < l.length := by simpa using h
  simp [List.getElem?_eq_getElem h']
theorem map_get2 (a b : List Int) (k : Nat) (hk : k < b.length) (h : a.length + k < ((a ++ b).map fun y => [Value.int .i64 y]).length) : ((a ++ b).map fun y => [Value.int .i64 y])[a.length + k] = [.int .i64 (b.getD k 0)] := by
  simp [List.getElem?_eq_getElem hk, List.getElem_append_right]
theorem MoC.one {w : World} {cs : List Value} {m : Mo} (h : MoC w cs m) : ∀ q ∈ cs, q.oneCell' = true := h.2.2.2.2.2.2.2
theorem MoC.spaceC {w : World} {cs : List Value} {m : Mo} (h : MoC w cs m) : cs[27]? = some (.int .i64 m.space) := h.2.2.2.1
theorem MoC.rootC {w : World} {cs : List Value} {m : Mo} (h : MoC w cs m) : cs[31]? = some (.int .i64 m.root) := h.2.2.2.2.2.2.1
/-! ### Exports -/
theorem Exs.isS {w : World} {v : Value} {l : List Ex} (h : Exs w v l) : IsS v l.length := ListR.isS h
theorem Exs.isE {w : World} {v : Value} {l : List Ex} (h : Exs w v l) (hn : 0 < l.length) : IsE v l.length := ListR.isE h hn
theorem Exs.max {w : World} {v : Value} {l : List Ex} (h : Exs w v l) : l.length ≤ maxLen := ListR.max h
theorem Exs.elem {w : World} {v : Value} {l : List Ex} (h : Exs w v l) {i : Nat} (hi : i < l.length) : ∃ cs, cs.length = 6 ∧ At w (blk v) (ofs v + i * 6) cs ∧ ExC cs l[i] := ListR.elem h hi
theorem ex_sz {cs : List Value} (hl : cs.length = 6) : (Try.prog.info? 62).map (·.size) = some (Value.agg cs.toArray).cells.size := by
  rw [show (Value.agg cs.toArray).cells.size = 6 by simpa [Value.cells] using hl]
  kernel_rfl
theorem im_sz {cs : List Value} (hl : cs.length = 26) : (Try.prog.info? 54).map (·.size) = some (Value.agg cs.toArray).cells.size := by
  rw [show (Value.agg cs.toArray).cells.size = 26 by simpa [Value.cells] using hl]
  kernel_rfl
theorem ag_len {cs old : List Value} (h : cs.length = old.length) : old.length = (Value.agg cs.toArray).cells.size := by
  rw [← h]
  simp [Value.cells]
theorem ExC.one {cs : List Value} {x : Ex} (h : ExC cs x) : ∀ q ∈ cs, q.oneCell' = true := h.2.2.2.2.2
/-- The image of a module. -/
theorem MoC.image {w : World} {cs : List Value} {m : Mo} (h : MoC w cs m) : (cs.take 26).length = 26 ∧ ImC w (cs.take 26) m.exports m.versions ∧ ∀ q ∈ cs.take 26, q.oneCell' = true := by
  refine ⟨by rw [List.length_take, h.1]; rfl, ?_, fun q hq => h.one q (List.mem_of_mem_take hq)⟩
  obtain ⟨ev, vv, h1, h2, h3, h4⟩ := h.2.1
  exact ⟨ev, vv, by rw [List.getElem?_take]; exact h1, h2, by rw [List.getElem?_take]; exact h3, h4⟩
theorem Mods.image {w : World} {v : Value} {ms : List Mo} (h : Mods w v ms) {x : Int} (hx : InR ms x) : ∃ ics, ics.length = 26 ∧ At w (blk v) (ofs v + x.toNat * 32 + 0) ics ∧ ImC w ics (moAt ms x).exports (moAt ms x).versions ∧ ∀ q ∈ ics, q.oneCell' = true := by
  obtain ⟨cs, h1, h2, h3⟩ := h.elem hx
  obtain ⟨i1, i2, i3⟩ := h3.image
  refine ⟨cs.take 26, i1, fun j u hj => h2 j u ?_, i2, i3⟩
  rw [List.getElem?_take] at hj
  split at hj
  · exact hj
  · cases hj
/-! ### Results -/
theorem ListR.of_map {β : Type} {w : World} {K : Nat} {v : Value} {f : β → List Value} {l : List β} (hf : ∀ b, (f b).length = K) (h : Reads w K v l.length (l.map f).flatten) : ListR w K v (fun cs b => cs = f b) l := by
  refine ⟨l.map f, ⟨by rw [List.length_map]; exact h, fun c hc => ?_⟩, by simp, fun i h1 h2 => by simp⟩
  obtain ⟨x, _, rfl⟩ := List.mem_map.1 hc
  exact hf x
def refC (p : Int × Int) : List Value := [.int .i64 p.1, .int .i64 p.2]
/-- A slice of refusals. -/
def Refs (w : World) (v : Value) (l : List (Int × Int)) : Prop := ListR w 2 v (fun cs p => cs = refC p) l
theorem Refs.ext {w w' : World} {v : Value} {l : List (Int × Int)} (h : Refs w v l) (he : Ext w w') : Refs w' v l := ListR.mono h he fun _ _ h => h
theorem Refs.isS {w : World} {v : Value} {l : List (Int × Int)} (h : Refs w v l) : IsS v l.length := ListR.isS h
theorem Refs.isE {w : World} {v : Value} {l : List (Int × Int)} (h : Refs w v l) (hn : 0 < l.length) : IsE v l.length := ListR.isE h hn
theorem Refs.mod {w : World} {v : Value} {l : List (Int × Int)} (h : Refs w v l) {i : Nat} (hi : i < l.length) : w.cell? ⟨blk v, ofs v + i * 2 + 0, none⟩ = some (.int .i64 l[i].1) := by
  obtain ⟨cs, _, h2, rfl⟩ := ListR.elem h hi
  exact h2 0 _ rfl
theorem Refs.why {w : World} {v : Value} {l : List (Int × Int)} (h : Refs w v l) {i : Nat} (hi : i < l.length) : w.cell? ⟨blk v, ofs v + i * 2 + 1, none⟩ = some (.int .i64 l[i].2) := by
  obtain ⟨cs, _, h2, rfl⟩ := ListR.elem h hi
  exact h2 1 _ rfl
theorem Refs.of_own {w : World} {base : Nat} {e : TypeId} {v : Value} {l : List (Int × Int)} (h : OwnQ w base e 2 v l.length (l.map refC).flatten) : Refs w v l := ListR.of_map (fun _ => rfl) h.reads
theorem Ints.of_q {w : World} {base : Nat} {e : TypeId} {v : Value} {l : List Int} (h : OwnQ w base e 1 v l.length (l.map (Value.int .i64))) : Ints w v l := ListR.of_lits h.reads
theorem Ints.nil (w : World) : Ints w (.slice none 0 0) [] := ⟨[], ⟨⟨by simp, .inl ⟨⟨_, rfl⟩, rfl⟩⟩, fun c hc => by cases hc⟩, rfl, fun i h1 => absurd h1 (Nat.not_lt_zero i)⟩
theorem MoC.baseC {w : World} {cs : List Value} {m : Mo} (h : MoC w cs m) : cs[26]? = some (.int .i64 m.base) := h.2.2.1
theorem MoC.goneC {w : World} {cs : List Value} {m : Mo} (h : MoC w cs m) : cs[30]? = some (.bool m.gone) := h.2.2.2.2.2.1
theorem Ints.reads {w : World} {v : Value} {l : List Int} (h : Ints w v l) : Reads w 1 v l.length (l.map (Value.int .i64)) := by
  obtain ⟨css, h1, h2, h3⟩ := h
  have e : css = l.map fun n => [Value.int .i64 n] := List.ext_getElem (by simp [h2]) fun i i1 i2 => by
    rw [List.getElem_map]
    exact h3 i i1 (by simpa using i2)
  have h4 := h1.1
  subst e
  have hf : (l.map fun n => [Value.int .i64 n]).flatten = l.map (Value.int .i64) := by
    clear h1 h2 h3 h4
    induction l with
    | nil => rfl
    | cons n r ih => simp [ih]
  rw [hf, List.length_map] at h4
  exact h4
/-- A slice of pairs. -/
def Pairs (w : World) (v : Value) (l : List (Int × Int)) : Prop := ListR w 1 v (fun cs p => ∃ b, cs = [.slice (some ⟨b, 0, none⟩) 2 2] ∧ Row w b 3 (refC p)) l
theorem Pairs.ext {w w' : World} {v : Value} {l : List (Int × Int)} (h : Pairs w v l) (he : Ext w w') : Pairs w' v l := ListR.mono h he fun _ _ ⟨b, h1, h2⟩ => ⟨b, h1, h2.ext he⟩
theorem Pairs.isS {w : World} {v : Value} {l : List (Int × Int)} (h : Pairs w v l) : IsS v l.length := ListR.isS h
theorem Pairs.isE {w : World} {v : Value} {l : List (Int × Int)} (h : Pairs w v l) (hn : 0 < l.length) : IsE v l.length := ListR.isE h hn
theorem Pairs.get {w : World} {v : Value} {l : List (Int × Int)} (h : Pairs w v l) {i : Nat} (hi : i < l.length) : ∃ b, w.cell? ⟨blk v, ofs v + i * 1, none⟩ = some (.slice (some ⟨b, 0, none⟩) 2 2) ∧ Row w b 3 (refC l[i]) := by
  obtain ⟨cs, _, h2, b, rfl, h3⟩ := ListR.elem h hi
  exact ⟨b, h2 0 _ rfl, h3⟩
def slc (b : Nat) : Value := .slice (some ⟨b, 0, none⟩) 2 2
theorem Pairs.of_q {w : World} {base : Nat} {e : TypeId} {v : Value} {bs : List Nat} {l : List (Int × Int)} (h : OwnQ w base e 1 v bs.length (bs.map slc)) (hl : bs.length = l.length) (hr : ∀ j (h1 : j < bs.length) (h2 : j < l.length), Row w bs[j] 3 (refC l[j])) : Pairs w v l := by
  have e1 : (bs.map fun b => [slc b]).flatten = bs.map slc := by
    clear h hl hr
    induction bs with
    | nil => rfl
    | cons b r ih => simp [ih]
  refine ⟨bs.map fun b => [slc b], ⟨by rw [List.length_map, e1]; exact h.reads, fun c hc => ?_⟩, by simp [hl], fun i h1 h2 => ?_⟩
  · obtain ⟨x, _, rfl⟩ := List.mem_map.1 hc
    rfl
  · rw [List.getElem_map]
    exact ⟨_, rfl, hr i (by simpa using h1) h2⟩
theorem Ints.take {w : World} {v : Value} {l : List Int} (h : Ints w v l) {i : Nat} (hi : i ≤ l.length) : Ints w (takeV v i) (l.take i) := by
  have h1 := Reads.takeV h.reads hi
  have h2 : (l.take i).length = i := by rw [List.length_take]; omega
  refine ListR.of_lits (enc := Value.int .i64) ?_
  rw [h2, List.map_take]
  simpa using h1
theorem inR_of {ms : List Mo} {z : Int} (h : (decide (0 ≤ z) && decide (z < (ms.length : Int))) = true) : InR ms z := by
  rw [Bool.and_eq_true, decide_eq_true_eq, decide_eq_true_eq] at h
  exact h
theorem Ints.cellD {w : World} {v : Value} {l : List Int} (h : Ints w v l) {i : Nat} (hi : i < l.length) : w.cell? ⟨blk v, ofs v + i * 1, none⟩ = some (.int .i64 (l.getD i 0)) := by
  rw [Ints.cell h hi]
  simp [hi]
end Go.Proofs.Ytgagjmapjdeknaa
