/- Slices of structs: the elements' cells one after the other, and what each stands for. -/
import Derived.Test.YtcgapppamhffjaaLaw
namespace Go.XK
open Go.RowKit Go.ChangeShapes Go.WideShapes

/-- v reads as elements of K cells each: the cells css. -/
def Elems (w : World) (K : Nat) (v : Value) (css : List (List Value)) : Prop := Reads w K v css.length css.flatten ∧ ∀ c ∈ css, c.length = K
theorem flatten_get {K : Nat} : ∀ (css : List (List Value)) (i j : Nat), (∀ c ∈ css, c.length = K) → ∀ (hi : i < css.length), j < K → css.flatten[i * K + j]? = css[i][j]?
  | [], i, _, _, hi, _ => absurd hi (Nat.not_lt_zero i)
  | c :: r, 0, j, h, _, hj => by
    have hc := h c (List.mem_cons_self ..)
    rw [List.flatten_cons, Nat.zero_mul, Nat.zero_add, List.getElem?_append_left (by omega)]
    rfl
  | c :: r, i + 1, j, h, hi, hj => by
    have hc := h c (List.mem_cons_self ..)
    have ih := flatten_get r i j (fun c hc => h c (List.mem_cons_of_mem _ hc)) (by simpa using hi) hj
    rw [List.flatten_cons, List.getElem?_append_right (by rw [hc, Nat.add_mul]; omega), hc, show (i + 1) * K + j - K = i * K + j by rw [Nat.add_mul]; omega, ih]
    rfl
theorem Elems.ext {w w' : World} {K : Nat} {v : Value} {css : List (List Value)} (h : Elems w K v css) (he : Ext w w') : Elems w' K v css := ⟨h.1.ext he, h.2⟩
theorem Elems.cell {w : World} {K : Nat} {v : Value} {css : List (List Value)} (h : Elems w K v css) {i j : Nat} {u : Value} (hi : i < css.length) (hj : css[i][j]? = some u) : w.cell? ⟨blk v, ofs v + i * K + j, none⟩ = some u := by
  have hl := h.2 _ (List.getElem_mem hi)
  have hjl : j < K := by rw [← hl]; exact (List.getElem?_eq_some_iff.1 hj).1
  rw [Nat.add_assoc]
  exact Reads.atB h.1 (Nat.lt_of_le_of_lt (Nat.zero_le _) hi) _ _ (by rw [flatten_get css i j h.2 hi hjl]; exact hj)
theorem Elems.at {w : World} {K : Nat} {v : Value} {css : List (List Value)} (h : Elems w K v css) {i : Nat} (hi : i < css.length) : At w (blk v) (ofs v + i * K) css[i] := fun _ _ hj => h.cell hi hj
theorem Elems.of_own {w : World} {base K : Nat} {e : TypeId} {v : Value} {css : List (List Value)} (h : w.ownsRow base e K v css.length css.flatten) (hK : ∀ c ∈ css, c.length = K) : Elems w K v css := ⟨Reads.of_own h, hK⟩

/-- .. which stand for bs. -/
def ListR {β : Type} (w : World) (K : Nat) (v : Value) (Q : List Value → β → Prop) (bs : List β) : Prop :=
  ∃ css, Elems w K v css ∧ css.length = bs.length ∧ ∀ i (h1 : i < css.length) (h2 : i < bs.length), Q css[i] bs[i]
theorem ListR.mono {β : Type} {w w' : World} {K : Nat} {v : Value} {Q Q' : List Value → β → Prop} {bs : List β} (h : ListR w K v Q bs) (he : Ext w w') (hq : ∀ c b, Q c b → Q' c b) : ListR w' K v Q' bs := by
  obtain ⟨css, h1, h2, h3⟩ := h
  exact ⟨css, h1.ext he, h2, fun i i1 i2 => hq _ _ (h3 i i1 i2)⟩
theorem ListR.reads {β : Type} {w : World} {K : Nat} {v : Value} {Q : List Value → β → Prop} {bs : List β} (h : ListR w K v Q bs) : ∃ cs, Reads w K v bs.length cs := by
  obtain ⟨css, h1, h2, _⟩ := h
  exact ⟨css.flatten, by rw [← h2]; exact h1.1⟩
theorem ListR.isS {β : Type} {w : World} {K : Nat} {v : Value} {Q : List Value → β → Prop} {bs : List β} (h : ListR w K v Q bs) : IsS v bs.length := h.reads.elim fun _ h => Reads.isS h
theorem ListR.isE {β : Type} {w : World} {K : Nat} {v : Value} {Q : List Value → β → Prop} {bs : List β} (h : ListR w K v Q bs) (hn : 0 < bs.length) : IsE v bs.length := h.reads.elim fun _ h => Reads.isE h hn
theorem ListR.max {β : Type} {w : World} {K : Nat} {v : Value} {Q : List Value → β → Prop} {bs : List β} (h : ListR w K v Q bs) : bs.length ≤ maxLen := h.reads.elim fun _ h => Reads.max h
/-- One element: its cells, and what they stand for. -/
theorem ListR.elem {β : Type} {w : World} {K : Nat} {v : Value} {Q : List Value → β → Prop} {bs : List β} (h : ListR w K v Q bs) {i : Nat} (hi : i < bs.length) : ∃ cs, cs.length = K ∧ At w (blk v) (ofs v + i * K) cs ∧ Q cs bs[i] := by
  obtain ⟨css, h1, h2, h3⟩ := h
  have hc : i < css.length := by omega
  exact ⟨css[i], h1.2 _ (List.getElem_mem hc), h1.at hc, h3 i hc hi⟩

/-- A row that has just been laid, owned. -/
theorem own_of_row {w : World} {base b : Nat} {e : TypeId} {size n : Nat} {vs : List Value} (h : Row w b e vs) (hb : base ≤ b) (hl : vs.length = n * size) (hm : n ≤ maxLen) : w.ownsRow base e size (.slice (some ⟨b, 0, none⟩) n n) n vs :=
  ⟨hl, .inr ⟨b, n, vs.toArray, rfl, hb, h, Nat.le_refl _, hm, by simpa using hl, by
    rw [← hl]
    exact List.take_length⟩⟩
theorem ListR.of_lits {β : Type} {w : World} {v : Value} {enc : β → Value} {l : List β} (h : Reads w 1 v l.length (l.map enc)) : ListR w 1 v (fun cs b => cs = [enc b]) l := by
  have e : (l.map fun b => [enc b]).flatten = l.map enc := by
    induction l with
    | nil => rfl
    | cons b r ih =>
      have : ∀ r : List β, (r.map fun b => [enc b]).flatten = r.map enc := by
        intro r
        induction r with
        | nil => rfl
        | cons b r ih => simp [ih]
      simp [this]
  refine ⟨l.map fun b => [enc b], ⟨by rw [List.length_map, e]; exact h, fun c hc => ?_⟩, by simp, fun i h1 h2 => by simp⟩
  obtain ⟨b, _, rfl⟩ := List.mem_map.1 hc
  rfl
section
variable {H : Type} {enc : TypeId × Value → H} {P : Program} {W : World} {base : Nat} {held : Bool}
/-- A slice within what came in. -/
theorem slice_of_trod {t e : TypeId} {fuel : Nat} {v : Value} {x : DataW H × List MemPlace} (ht : P.underlying t = some (.slice e)) (hpos : 0 < P.cellsOf e) (h : DataW.trod enc P W base (fun _ => true) held fuel t [v] = some x) :
    (∃ a, v = .slice a 0 0) ∨ ∃ (b o len cap n : Nat), v = .slice (some ⟨b, o, none⟩) len cap ∧ len ≤ cap ∧ cap ≤ maxLen ∧
      ∀ i, i < len → ∃ cs' y, cs'.length = P.cellsOf e ∧ (∀ j, j < P.cellsOf e → W.cell? ⟨b, o + (i * P.cellsOf e + j), none⟩ = cs'[j]?) ∧ DataW.trod enc P W base (fun _ => true) held n e cs' = some y := by
  rcases Go.Deep.open_slice ht h with ⟨hcs, _⟩ | ⟨a, len, cap, m, n, D, Pl, hcs, _, hl, hm, hmm, _, hi⟩
  · left
    exact ⟨none, by simpa using hcs⟩
  · simp only [List.cons.injEq, and_true] at hcs
    subst hcs
    simp only [if_true] at hmm
    by_cases hc : cap = 0
    · left
      have : len = 0 := by omega
      subst hc this
      exact ⟨_, rfl⟩
    · right
      have hs : a.spot = none := by
        obtain ⟨cs', h1, _⟩ := hi 0 (by omega)
        obtain ⟨_, h3, h4⟩ := World.cells?_some h1
        have := h4 0 hpos
        rw [Nat.zero_mul, show (a.add 0).add 0 = a from rfl] at this
        rw [List.getElem?_eq_getElem (by omega)] at this
        unfold World.cell? at this
        cases hsp : a.spot with
        | none => rfl
        | some s =>
          rw [hsp] at this
          split at this <;> simp at this
      obtain ⟨b, o, s⟩ := a
      simp only at hs
      subst hs
      refine ⟨b, o, len, cap, n, rfl, hl, hm, fun i hil => ?_⟩
      obtain ⟨cs', h1, h2⟩ := hi i (by omega)
      obtain ⟨_, h3, h4⟩ := World.cells?_some h1
      exact ⟨cs', _, h3, fun j hj => by rw [← h4 j hj, Go.Deep.add_add, Addr.add_mid], h2⟩
theorem listR_of {β : Type} {Q : List Value → β → Prop} {t e : TypeId} {K fuel : Nat} {v : Value} {x : DataW H × List MemPlace} (ht : P.underlying t = some (.slice e)) (hK : P.cellsOf e = K) (hpos : 0 < K)
    (h : DataW.trod enc P W base (fun _ => true) held fuel t [v] = some x) (hel : ∀ n cs y, cs.length = K → DataW.trod enc P W base (fun _ => true) held n e cs = some y → ∃ b, Q cs b) : ∃ bs, ListR W K v Q bs := by
  subst hK
  rcases slice_of_trod ht hpos h with ⟨a, rfl⟩ | ⟨b, o, len, cap, n, rfl, hlc, hcm, hi⟩
  · exact ⟨[], [], ⟨⟨by simp, .inl ⟨⟨_, rfl⟩, rfl⟩⟩, fun c hc => by cases hc⟩, rfl, fun i h1 => absurd h1 (Nat.not_lt_zero i)⟩
  · obtain ⟨l, hl, hq⟩ := list_of (α := List Value × β) (Q := fun i p => p.1.length = P.cellsOf e ∧ (∀ j, j < P.cellsOf e → W.cell? ⟨b, o + (i * P.cellsOf e + j), none⟩ = p.1[j]?) ∧ Q p.1 p.2) len fun i hil => by
      obtain ⟨cs, y, h1, h2, h3⟩ := hi i hil
      obtain ⟨be, hb⟩ := hel n cs y h1 h3
      exact ⟨(cs, be), h1, h2, hb⟩
    have hlen : ∀ c ∈ l.map (·.1), c.length = P.cellsOf e := fun c hc => by
      obtain ⟨p, hp, rfl⟩ := List.mem_map.1 hc
      obtain ⟨i, hi', rfl⟩ := List.getElem_of_mem hp
      exact (hq i hi').1
    refine ⟨l.map (·.2), l.map (·.1), ⟨⟨?_, .inr ⟨b, o, cap, by simp [hl], by simp [hl]; exact hlc, hcm, fun j u hj => ?_⟩⟩, hlen⟩, by simp, fun i h1 h2 => ?_⟩
    · have : ∀ css : List (List Value), (∀ c ∈ css, c.length = P.cellsOf e) → css.flatten.length = css.length * P.cellsOf e := by
        intro css
        induction css with
        | nil => intro _; simp
        | cons c r ih =>
          intro h
          rw [List.flatten_cons, List.length_append, h c (List.mem_cons_self ..), ih fun c hc => h c (List.mem_cons_of_mem _ hc), List.length_cons, Nat.add_mul]
          omega
      exact this _ hlen
    · have hjl := (List.getElem?_eq_some_iff.1 hj).1
      have hfl : (l.map (·.1)).flatten.length = l.length * P.cellsOf e := by
        have : ∀ css : List (List Value), (∀ c ∈ css, c.length = P.cellsOf e) → css.flatten.length = css.length * P.cellsOf e := by
          intro css
          induction css with
          | nil => intro _; simp
          | cons c r ih =>
            intro h
            rw [List.flatten_cons, List.length_append, h c (List.mem_cons_self ..), ih fun c hc => h c (List.mem_cons_of_mem _ hc), List.length_cons, Nat.add_mul]
            omega
        rw [this _ hlen]
        simp
      rw [hfl] at hjl
      have hq1 : j / P.cellsOf e < l.length := (Nat.div_lt_iff_lt_mul hpos).2 hjl
      have hq2 : j % P.cellsOf e < P.cellsOf e := Nat.mod_lt _ hpos
      have hj2 : j / P.cellsOf e * P.cellsOf e + j % P.cellsOf e = j := by rw [Nat.mul_comm]; exact Nat.div_add_mod _ _
      have hc := (hq _ hq1).2.1 _ hq2
      rw [hj2] at hc
      rw [hc]
      have hf := flatten_get (l.map (·.1)) (j / P.cellsOf e) (j % P.cellsOf e) hlen (by simpa using hq1) hq2
      rw [hj2, hj] at hf
      rw [hf]
      simp
    · simp only [List.getElem_map]
      exact (hq i (by simpa using h1)).2.2
end
end Go.XK
