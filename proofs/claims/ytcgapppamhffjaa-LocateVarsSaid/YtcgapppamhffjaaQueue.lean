/- A slice that is owned from some place of its row on: what `q = q[1:]` leaves, and appends to it. -/
import Derived.Test.YtcgapppamhffjaaOps
namespace Go.XK
open Go.RowKit

def OwnQ (w : World) (base : Nat) (e : TypeId) (size : Nat) (v : Value) (n : Nat) (xs : List Value) : Prop :=
  xs.length = n * size ∧ ((v = .slice none 0 0 ∧ n = 0) ∨
   ∃ g o cap cur, v = .slice (some ⟨g, o, none⟩) n cap ∧ base ≤ g ∧ w.heap[g]? = some (.cells cur e (0, 0)) ∧ n ≤ cap ∧ cap ≤ maxLen ∧ o + cap * size ≤ cur.size ∧ (cur.toList.drop o).take (n * size) = xs)
section
variable {w w' : World} {base : Nat} {e : TypeId} {size n : Nat} {v : Value} {xs : List Value}
theorem OwnQ.of_own (h : w.ownsRow base e size v n xs) : OwnQ w base e size v n xs := by
  refine ⟨h.1, ?_⟩
  rcases h.2 with h2 | ⟨g, cap, cur, hv, hg, hh, hn, hm, hs, ht⟩
  · exact .inl h2
  · exact .inr ⟨g, 0, cap, cur, hv, hg, hh, hn, hm, by omega, by rw [List.drop_zero]; exact ht⟩
theorem OwnQ.lt (h : OwnQ w base e size v n xs) : ∀ k, v.ownBlock = some k → base ≤ k ∧ k < w.heap.size := by
  intro k hk
  rcases h.2 with ⟨rfl, _⟩ | ⟨g, o, cap, cur, rfl, hb, hg, _⟩
  · simp [Value.ownBlock] at hk
  · simp [Value.ownBlock] at hk
    subst hk
    exact ⟨hb, (Array.getElem?_eq_some_iff.1 hg).1⟩
theorem OwnQ.typ {b : Nat} {T : TypeId} {l : List Value} (h : OwnQ w base e size v n xs) (hr : Row w b T l) (hb : v.ownBlock = some b) (ht : (e == T) = false) : False := by
  rcases h.2 with ⟨rfl, _⟩ | ⟨g, o, cap, cur, rfl, _, hg, _⟩
  · simp [Value.ownBlock] at hb
  · simp [Value.ownBlock] at hb
    subst hb
    unfold Row at hr
    rw [hg] at hr
    simp only [Option.some.injEq, Obj.cells.injEq] at hr
    rw [hr.2.1] at ht
    simp at ht
theorem OwnQ.reads (h : OwnQ w base e size v n xs) : Reads w size v n xs := by
  refine ⟨h.1, ?_⟩
  rcases h.2 with h2 | ⟨b, o, c, cur, hv, _, hh, hn, hm, hs, ht⟩
  · exact .inl ⟨⟨_, h2.1⟩, h2.2⟩
  · refine .inr ⟨b, o, c, hv, hn, hm, fun j u hj => ?_⟩
    have hjl := (List.getElem?_eq_some_iff.1 hj).1
    rw [← ht, List.getElem?_take] at hj
    split at hj
    · rw [List.getElem?_drop, Array.getElem?_toList] at hj
      simp [World.cell?, hh, hj]
    · cases hj
theorem OwnQ.mod {S : Nat → Prop} (m : Mod S w w') (h : OwnQ w base e size v n xs) (hn : ∀ k, v.ownBlock = some k → ¬ S k) : OwnQ w' base e size v n xs := by
  refine ⟨h.1, ?_⟩
  rcases h.2 with h2 | ⟨g, o, cap, cur, hv, hg, hh, r⟩
  · exact .inl h2
  · exact .inr ⟨g, o, cap, cur, hv, hg, by rw [m.block g (Array.getElem?_eq_some_iff.1 hh).1 (hn g (by rw [hv]; rfl))]; exact hh, r⟩
theorem OwnQ.ext (h : OwnQ w base e size v n xs) (he : Ext w w') : OwnQ w' base e size v n xs := h.mod (he.mod (fun _ => False)) fun _ _ h => h
theorem OwnQ.upd {b : Nat} (u : Upd b w w') (h : OwnQ w base e size v n xs) (hn : ∀ k, v.ownBlock = some k → k ≠ b) : OwnQ w' base e size v n xs := h.mod (u.mod (S := fun k => k = b) rfl) fun k hk e => hn k hk e
theorem OwnQ.drop (h : OwnQ w base e size v n xs) {i : Nat} (hi : i ≤ n) : OwnQ w base e size (dropV size v i) (n - i) (xs.drop (i * size)) := by
  refine ⟨by rw [List.length_drop, h.1, ← Nat.sub_mul], ?_⟩
  rcases h.2 with ⟨rfl, hn⟩ | ⟨g, o, cap, cur, rfl, hg, hh, hn, hm, hs, ht⟩
  · left
    have : i = 0 := by omega
    subst this
    simp only [dropV]
    exact ⟨by simp, by omega⟩
  · right
    simp only [dropV]
    by_cases hc : cap = i
    · subst hc
      refine ⟨g, o, 0, cur, by simp, hg, hh, by omega, by omega, by omega, ?_⟩
      rw [show n - cap = 0 by omega, Nat.zero_mul, List.take_zero, List.drop_of_length_le (by rw [h.1]; exact Nat.mul_le_mul_right _ (by omega))]
    · refine ⟨g, o + i * size, cap - i, cur, by simp [hc, Addr.add_mid], hg, hh, by omega, by omega, ?_, ?_⟩
      · rw [Nat.sub_mul]
        have : i * size ≤ cap * size := Nat.mul_le_mul_right _ (by omega)
        omega
      · rw [← ht, ← List.drop_drop, List.drop_take, ← Nat.sub_mul]
end

section
variable {P : Program} {env : List (Nat × Value)} {d : Option Tmp} {ty : TypeId} {pos : String} {af : Array Edge} {g : Option (Nat × Bool)}
theorem run_append_roomQ {w : World} {t ty e : TypeId} {i : TypeInfo} (ht : P.underlying t = some (.slice e)) (hi : P.info? e = some i)
    {g o sLen sCap : Nat} {cur : Array Value} (hg : w.heap[g]? = some (.cells cur e (0, 0)))
    {a : Addr} {m c : Nat} {news : List Value} (hl : news.length = m * i.size) (hnews : ∀ j u, news[j]? = some u → w.cell? (a.add j) = some u) (h1 : ∀ u ∈ news, u.oneCell' = true)
    (hroom : sLen + m ≤ sCap) (hfit : o + sLen * i.size + news.length ≤ cur.size) :
    (Builtin.append_ #[t, t] ty #[.slice (some ⟨g, o, none⟩) sLen sCap, .slice (some a) m c]).run P w =
      .ok (.slice (some ⟨g, o, none⟩) (sLen + m) sCap) (w.setRow g (cur.toList.take (o + sLen * i.size) ++ news ++ cur.toList.drop (o + sLen * i.size + news.length)).toArray) := by
  have hf := run_firstCells_some (P := P) w i.size m a m c news hl hnews
  have hst := run_storeCells_at P g (o + sLen * i.size) e news 0 cur w hg (by simpa using hfit) h1
  simp only [Nat.add_zero] at hst
  simp [Builtin.append_, run_underlying ht, sizeOf, typeInfo, hi, Builtin.lenOf, hroom, hf, Addr.add_mid, hst]
theorem Stp.appendQ {w : World} {s x : Operand} {t e : TypeId} {z : Value} {size bytes base n m : Nat} {v u : Value} {xs news : List Value} {K : Value → World → Prop} (ht : P.underlying t = some (.slice e)) (hi : Inf P e z size bytes)
    (hz : z.cells.size = size) (hs : ev env s = some v) (hx : ev env x = some u) (hown : OwnQ w base e size v n xs) (hbase : base ≤ w.heap.size) (hr : Reads w size u m news) (h1 : ∀ q ∈ news, q.oneCell' = true)
    (hb : (n + m) * bytes ≤ 140737488355328) (hb0 : n + m ≤ maxLen)
    (h : ∀ v' w', OwnQ w' base e size v' (n + m) (xs ++ news) → w.grownBy w' v.ownBlock → (∀ k, v'.ownBlock = some k → v.ownBlock = some k ∨ w.heap.size ≤ k) → K v' w') : Stp P env w ⟨d, .call ⟨.builtin .append, #[s, x], #[t, t]⟩, ty, pos, af, g⟩ K := fun a N ha => by
  obtain ⟨inf, h2, h3, h4, h5⟩ := hi.ex
  by_cases hm0 : m = 0
  · subst hm0
    have hn0 : news = [] := List.eq_nil_of_length_eq_zero (by simpa using hr.1)
    subst hn0
    have hq : (Builtin.append_ #[t, t] ty #[v, u]).run P w = .ok v w := by
      rcases hr.2 with ⟨⟨a', rfl⟩, _⟩ | ⟨b', o', c', rfl, _, _, _⟩
      · rcases hown.2 with ⟨rfl, rfl⟩ | ⟨g0, o, cap, cur, rfl, hbg, hg, hnc, hcm, hcs, htake⟩
        · cases a' <;> simp [Builtin.append_, run_underlying ht, sizeOf, typeInfo, h2, Builtin.lenOf, Builtin.firstCells, loadCells, loadCellsFrom]
        · cases a' <;> simp [Builtin.append_, run_underlying ht, sizeOf, typeInfo, h2, Builtin.lenOf, Builtin.firstCells, loadCells, loadCellsFrom, hnc, storeCells]
      · rcases hown.2 with ⟨rfl, rfl⟩ | ⟨g0, o, cap, cur, rfl, hbg, hg, hnc, hcm, hcs, htake⟩
        · simp [Builtin.append_, run_underlying ht, sizeOf, typeInfo, h2, Builtin.lenOf, Builtin.firstCells, loadCells, loadCellsFrom]
        · simp [Builtin.append_, run_underlying ht, sizeOf, typeInfo, h2, Builtin.lenOf, Builtin.firstCells, loadCells, loadCellsFrom, hnc, storeCells]
    simp only [execOp, resolve, invoke, builtin, Sem.run_bind, Sem.run_pure, Result.andThen_ok, List.map_toArray, List.map_cons, List.map_nil, ha.ev hs, ha.ev hx, hq]
    exact h v w (by simpa using hown) ⟨rfl, rfl, rfl, Nat.le_refl _, fun _ _ _ => rfl⟩ fun k hk => .inl hk
  have hm : 0 < m := Nat.pos_of_ne_zero hm0
  obtain ⟨b', o', c', rfl, hmc, _, hat⟩ := hr.has hm
  have hlen : (xs ++ news).length = (n + m) * size := by rw [List.length_append, hown.1, hr.1, Nat.add_mul]
  have hnew : ∀ j q, news[j]? = some q → w.cell? ((⟨b', o', none⟩ : Addr).add j) = some q := fun j q hj => by rw [Addr.add_mid]; exact hat j q hj
  have grown : ∀ (old : Nat), OwnQ (w.drew.alloc (.cells (xs.toArray ++ news.toArray ++ Builtin.zeroCells z.cells (grownCap w (n + m) old e - (n + m))) e)) base e size
        (.slice (some ⟨w.heap.size, 0, none⟩) (n + m) (grownCap w (n + m) old e)) (n + m) (xs ++ news) := by
    intro old
    have hge := grownCap_ge w (n + m) old e
    have hcm : grownCap w (n + m) old e ≤ maxLen := grownCap_le_maxLen w (n + m) old e hb0
    refine ⟨hlen, .inr ⟨w.heap.size, 0, _, _, rfl, hbase, heap_alloc_new w.drew _, hge, hcm, ?_, ?_⟩⟩
    · simp only [Array.size_append, List.size_toArray, size_zeroCells, hz, hown.1, hr.1, ← Nat.add_mul]
      rw [Nat.zero_add]
      exact Nat.mul_le_mul_right _ (by omega)
    · simp only [Array.toList_append, List.append_assoc, List.drop_zero]
      rw [← List.append_assoc, ← hlen]
      exact List.take_left
  have hgr : ∀ old row, w.grownBy (w.drew.alloc (.cells (xs.toArray ++ news.toArray ++ Builtin.zeroCells z.cells (grownCap w (n + m) old e - (n + m))) e)) row := fun old row =>
    Ext.grownBy ((Below.refl _ _).alloc (Nat.le_refl _) _ |>.drew) row
  have hrun : ∃ v' w', (Builtin.append_ #[t, t] ty #[v, .slice (some ⟨b', o', none⟩) m c']).run P w = .ok v' w' ∧ OwnQ w' base e size v' (n + m) (xs ++ news) ∧ w.grownBy w' v.ownBlock ∧ (∀ k, v'.ownBlock = some k → v.ownBlock = some k ∨ w.heap.size ≤ k) := by
    subst h4
    have hsm : n + m ≤ 9223372036854775807 := by simp only [maxLen] at hb0; omega
    rcases hown.2 with ⟨rfl, rfl⟩ | ⟨g0, o, cap, cur, rfl, hbg, hg, hnc, hcm, hcs, htake⟩
    · have hx : xs = [] := List.eq_nil_of_length_eq_zero (by simpa using hown.1)
      subst hx
      have hr2 := run_append_nil (P := P) w t ty e inf z ht h2 h3 ⟨b', o', none⟩ m c' news hr.1 hnew (by omega) (by omega) (by rw [h5]; rw [Nat.zero_add] at hb; omega)
      have := grown 0
      have hg2 := hgr 0 (Value.ownBlock (.slice none 0 0))
      simp only [Nat.zero_add, List.nil_append, Array.empty_append] at this hg2 ⊢
      exact ⟨_, _, hr2, this, hg2, fun k hk => .inr (by simp [Value.ownBlock] at hk; omega)⟩
    · by_cases hroom : n + m ≤ cap
      · have hfit : o + n * inf.size + news.length ≤ cur.size := by
          have : (n + m) * inf.size ≤ cap * inf.size := Nat.mul_le_mul_right _ hroom
          rw [Nat.add_mul] at this
          rw [hr.1]
          omega
        have hr2 := run_append_roomQ (P := P) (ty := ty) ht h2 hg hr.1 hnew h1 (c := c') hroom hfit
        refine ⟨_, _, hr2, ⟨hlen, .inr ⟨g0, o, cap, _, rfl, hbg, setRow_heap w g0 cur _ e _ hg, hroom, hcm, ?_, ?_⟩⟩, ⟨rfl, rfl, rfl, by simp, fun k _ hk => setRow_other w g0 k _ (fun e => hk (by simp [Value.ownBlock, e]))⟩, fun k hk => .inl hk⟩
        · simp only [List.size_toArray, List.length_append, List.length_take, List.length_drop, Array.length_toList]
          omega
        · have hol : o + n * inf.size ≤ cur.toList.length := by rw [Array.length_toList]; omega
          have e1 : (cur.toList.take (o + n * inf.size)).drop o = xs := by
            rw [← htake, List.drop_take]
            congr 1
            omega
          have hlo : (List.take (o + n * inf.size) cur.toList).length = o + n * inf.size := by rw [List.length_take]; omega
          rw [List.append_assoc, List.drop_append_of_le_length (by rw [hlo]; omega), e1, ← List.append_assoc, ← hlen]
          exact List.take_left
      · have hr2 := run_append_grow (P := P) w t ty e inf z ht h2 h3 ⟨g0, o, none⟩ n cap xs hown.1 (fun j q hj => by
            have hq := (OwnQ.reads ⟨hown.1, .inr ⟨g0, o, cap, cur, rfl, hbg, hg, hnc, hcm, hcs, htake⟩⟩ : Reads w inf.size (.slice (some ⟨g0, o, none⟩) n cap) n xs)
            rcases hq.2 with ⟨_, hn0⟩ | ⟨b2, o2, c2, ha', _, _, hat2⟩
            · have hx0 : xs = [] := List.eq_nil_of_length_eq_zero (by rw [hown.1, hn0]; simp)
              rw [hx0] at hj
              cases hj
            · cases ha'
              rw [Addr.add_mid]
              exact hat2 j q hj) ⟨b', o', none⟩ m c' news hr.1 hnew (by omega) (by omega) (growslice_fits (by omega) (by rw [h5]; exact hb))
        exact ⟨_, _, hr2, grown cap, hgr cap _, fun k hk => .inr (by simp [Value.ownBlock] at hk; omega)⟩
  obtain ⟨v', w', hq, h6, h7, h8⟩ := hrun
  simp only [execOp, resolve, invoke, builtin, Sem.run_bind, Sem.run_pure, Result.andThen_ok, List.map_toArray, List.map_cons, List.map_nil, ha.ev hs, ha.ev hx, hq]
  exact h v' w' h6 h7 h8
end
end Go.XK
