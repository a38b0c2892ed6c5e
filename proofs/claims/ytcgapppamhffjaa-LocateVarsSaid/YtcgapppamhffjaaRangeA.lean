/- A range over a function whose round begins with a new cell for the variable. -/
import Derived.Test.YtcgapppamhffjaaIter
namespace Go.XK
open Go.RowKit
section
variable {P : Program} {dl : List Deferred} {Q : Exit → Act → World → Prop} {N : Nat} {env : List (Nat × Value)} {w : World}
theorem EC.rangeA {g : Operand} {ps : Array Tmp} {assign body : Code} {xs : List (List Value)} {gf : Nat} {caps : List Value} {mem : Nat → Prop}
    (hg : ev env g = some (.func (.func gf) #[] caps.toArray)) (hgf : FnOK P gf) (hp : ps.toList.all (fun p => Nat.blt p N) = true) (hps : ∀ x ∈ xs, x.length = ps.size)
    (I : Nat → (Nat → Prop) → World → Prop) (Ix : Code → (Nat → Prop) → World → Prop) (stI : ∀ k, Stays w.heap.size (I k)) (stX : ∀ c, Stays w.heap.size (Ix c)) (bI : ∀ k S W, I k S W → ∀ b, S b → b < W.heap.size)
    (hseq : ∀ W1, Ext w W1 → SeqC P gf caps mem xs W1) (S0 : Nat → Prop) (hmem : ∀ b, mem b → ¬ S0 b ∧ b < w.heap.size) (h0 : I 0 S0 w) (A : Nat → List (Nat × Value) → World → Prop) (hA : ∀ k E W W', A k E W → Mod (fun b => b = w.heap.size + 1) W W' → A k E W')
    (hassign : ∀ l k W (hk : k < xs.length), w.heap.size + 1 < W.heap.size → EC P (some l) [] assign (Exit.then (fun a W' => ∃ E, OK [] a E N ∧ Ext W W' ∧ A k E W') (fun _ _ _ => False)) N (penv ps.toList xs[k] env) W)
    (hbody : ∀ l k S W E (_ : k < xs.length), I k S W → Mod S0 w W → A k E W → EC P (some l) [] body (RQ I Ix k S W) N E W)
    (hdone : ∀ D S W, w.heap.size ≤ D → Mod S0 w W → (∀ b, b < w.heap.size → S b → S0 b) → ¬ S D → W.heap[D]? = some (.deferred (some [])) → I xs.length S W → AQ (mark D :: dl) .normal Q N env W)
    (hstop : ∀ D c S W, w.heap.size ≤ D → Mod S0 w W → (∀ b, b < w.heap.size → S b → S0 b) → ¬ S D → W.heap[D]? = some (.deferred (some [])) → Ix c S W → EC P none (mark D :: dl) c Q N env W) :
    EC P none dl (.rangeFunc g ps assign body) Q N env w := by
  intro a ha
  refine wpIn_rangeFunc ?_
  intro fn _
  obtain ⟨rec, hrec⟩ : ∃ rec : LoopState → Option Code → Loop, rec = fun st pe => { state := st, pending := pe, fn, tmps := a.tmps, params := ps, assign, body, defers := w.heap.size } := ⟨_, rfl⟩
  obtain ⟨W1, hW1⟩ : ∃ W1, (w.alloc (.deferred (some []))).alloc (.loop (rec .ready none)) = W1 := ⟨_, rfl⟩
  have hL1 : W1.heap[w.heap.size + 1]? = some (.loop (rec .ready none)) := by
    rw [← hW1]; have := World.alloc_heap_new (w.alloc (.deferred (some []))) (.loop (rec .ready none)); rwa [World.size_alloc] at this
  have hK1 : W1.heap[w.heap.size]? = some (.deferred (some [])) := by
    rw [← hW1]; exact (Below.heap_alloc _ _ _ (by simp)).trans (World.alloc_heap_new w _)
  have hE1 : Ext w W1 := by
    rw [← hW1]; exact (((Below.refl _ w).alloc (Nat.le_refl _) _).alloc (by simp) _)
  have hs1 : W1.heap.size = w.heap.size + 2 := by rw [← hW1]; simp
  have heg : a.eval g = .func (.func gf) #[] caps.toArray := ha.ev hg
  have hcall : ∀ args w, (callFunc gf args).run P w = .ok (.enter gf args) w := fun args w => by
    unfold FnOK at hgf
    cases hfn : P.funcs[gf]? with
    | none => rw [hfn] at hgf; cases hgf
    | some fn =>
      rw [hfn] at hgf
      simp only [Bool.and_eq_true, Bool.not_eq_true'] at hgf
      have h3 : fn.body ≠ none := by intro e; rw [e] at hgf; exact absurd hgf.2 (by simp)
      have h4 : fn.name ≠ "runtime.NumGoroutine" := by simpa using hgf.1
      simp [callFunc, hfn, h3, h4]
  refine ⟨w.heap.size + 1, [mark w.heap.size], W1, { target := .fn (.func gf) caps.toArray, args := #[.func (.yield (w.heap.size + 1)) #[] #[]] }, W1, gf,
    #[.func (.yield (w.heap.size + 1)) #[] #[]] ++ caps.toArray, W1, ?_, ?_, fun _ _ => trivial, ?_, fun h => (by cases h), ?_⟩
  · rw [← hW1, hrec]; exact run_enterLoop_outer _ _ _ _ _
  · simp only [resolve, heg]
    simp [go_sem]
  · simp [invoke, hcall]
  have hlt1 : ∀ {W : World} {b : Nat} {o : Obj}, W.heap[b]? = some o → b < W.heap.size := fun h => (Array.getElem?_eq_some_iff.1 h).1
  have hb0 : ∀ b, S0 b → b < w.heap.size := bI 0 S0 w h0
  -- the loop's own invariant: the caller's, the record, the mark's block
  obtain ⟨up, hup⟩ : ∃ up : (Nat → Prop) → Nat → Prop, up = fun S1 b => S1 b ∨ b = w.heap.size ∨ b = w.heap.size + 1 := ⟨_, rfl⟩
  have hup1 : ∀ S b, S b → up S b := fun S b h => by rw [hup]; exact .inl h
  have hupl : ∀ S, up S (w.heap.size + 1) := fun S => by rw [hup]; exact .inr (.inr rfl)
  have hupD : ∀ S, up S w.heap.size := fun S => by rw [hup]; exact .inr (.inl rfl)
  have hupc : ∀ {S b}, up S b → S b ∨ b = w.heap.size ∨ b = w.heap.size + 1 := fun {S b} h => by rw [hup] at h; exact h
  obtain ⟨J, hJ⟩ : ∃ J : Nat → (Nat → Prop) → World → Prop, J = fun k S W => ∃ S1, S = up S1 ∧ ¬ S1 w.heap.size ∧ ¬ S1 (w.heap.size + 1) ∧ I k S1 W ∧ Mod S0 w W ∧ (∀ b, b < w.heap.size → S1 b → S0 b) ∧
      W.heap[w.heap.size + 1]? = some (.loop (rec .ready none)) ∧ W.heap[w.heap.size]? = some (.deferred (some [])) := ⟨_, rfl⟩
  obtain ⟨X, hX⟩ : ∃ X : (Nat → Prop) → World → Prop, X = fun S W => ∃ S1 c, S = up S1 ∧ ¬ S1 w.heap.size ∧ ¬ S1 (w.heap.size + 1) ∧ Ix c S1 W ∧ Mod S0 w W ∧ (∀ b, b < w.heap.size → S1 b → S0 b) ∧
      W.heap[w.heap.size + 1]? = some (.loop (rec .done (some c))) ∧ W.heap[w.heap.size]? = some (.deferred (some [])) := ⟨_, rfl⟩
  have hold : ∀ {W W' : World} {S : Nat → Prop} {b : Nat} {o : Obj}, Mod (fun b => W1.heap.size ≤ b ∧ ¬ S b) W W' → b < W1.heap.size → W.heap[b]? = some o → W'.heap[b]? = some o := fun {W W' S b o} hm hb ho => by
    rw [hm.block b (hlt1 ho) (fun h => by have := h.1; omega)]; exact ho
  have fin : ∀ (k : Nat) (S1 : Nat → Prop) (W W2 W4 : World) (c : Option Code) (S' : Nat → Prop), Ext W W2 → W.heap[w.heap.size + 1]? = some (.loop (rec .ready none)) → ¬ S1 w.heap.size → ¬ S1 (w.heap.size + 1) → Mod S0 w W → (∀ b, b < w.heap.size → S1 b → S0 b) →
      W.heap[w.heap.size]? = some (.deferred (some [])) → Mod S1 (W2.putObj (w.heap.size + 1) (.loop { rec .ready none with state := .busy })) W4 → (∀ b, b < (W2.putObj (w.heap.size + 1) (.loop { rec .ready none with state := .busy })).heap.size → S' b → S1 b) →
      ∃ W5, (Instr.endRound (w.heap.size + 1) c).run P W4 = .ok (.bool c.isNone) W5 ∧ Mod (up S1) W W5 ∧ (∀ b, b < W.heap.size → up S' b → up S1 b) ∧ ¬ S' w.heap.size ∧ ¬ S' (w.heap.size + 1) ∧ Mod S0 w W5 ∧ (∀ b, b < w.heap.size → S' b → S0 b) ∧
        W5.heap[w.heap.size + 1]? = some (.loop (rec (if c.isNone then .ready else .done) c)) ∧ W5.heap[w.heap.size]? = some (.deferred (some [])) ∧ Mod (fun b => w.heap.size ≤ b ∧ ¬ S' b) W4 W5 := by
    intro k S1 W W2 W4 c S' hx hl hn0 hn1 hm0 hs0 hk hm hS'
    have hl2 := (hx.block _ (hlt1 hl)).trans hl
    have hk2 := (hx.block _ (hlt1 hk)).trans hk
    have e3 : (W2.putObj (w.heap.size + 1) (.loop { rec .ready none with state := .busy })).heap.size = W2.heap.size := by simp
    have hl3 : (W2.putObj (w.heap.size + 1) (.loop { rec .ready none with state := .busy })).heap[w.heap.size + 1]? = some (.loop { rec .ready none with state := .busy }) := World.putObj_heap_same (hlt1 hl2)
    have hk3 : (W2.putObj (w.heap.size + 1) (.loop { rec .ready none with state := .busy })).heap[w.heap.size]? = some (.deferred (some [])) := (World.putObj_heap_other (by omega)).trans hk2
    have hl4 := (hm.block _ (hlt1 hl3) hn1).trans hl3
    have hk4 := (hm.block _ (hlt1 hk3) hn0).trans hk3
    have hn0' : ¬ S' w.heap.size := fun h => hn0 (hS' _ (hlt1 hk3) h)
    have hn1' : ¬ S' (w.heap.size + 1) := fun h => hn1 (hS' _ (hlt1 hl3) h)
    have hsz := hm0.size
    have hxs := hx.size
    refine ⟨_, run_endRound c hl4, ?_, ?_, hn0', hn1', ?_, ?_, ?_, ?_, ?_⟩
    · exact (((hx.mod (up S1)).trans (Mod.put W2 _ (hupl S1))).trans (hm.mono fun b _ hb => hup1 S1 b hb)).trans (Mod.put W4 _ (hupl S1))
    · intro b hb h
      rcases hupc h with h | h | h
      · exact hup1 S1 b (hS' b (by omega) h)
      · rw [h]; exact hupD S1
      · rw [h]; exact hupl S1
    · refine (hm0.then (S' := up S1) ((((hx.mod (up S1)).trans (Mod.put W2 _ (hupl S1))).trans (hm.mono fun b _ hb => hup1 S1 b hb)).trans (Mod.put W4 _ (hupl S1))) fun b hb h => ?_)
      rcases hupc h with h | h | h
      · exact hs0 b hb h
      · omega
      · omega
    · intro b hb h
      exact hs0 b hb (hS' b (by omega) h)
    · rw [World.putObj_heap_same (hlt1 hl4)]
      subst hrec
      cases c <;> rfl
    · exact (World.putObj_heap_other (by omega)).trans hk4
    · exact Mod.put W4 _ ⟨by omega, hn1'⟩
  have hI0 : I 0 S0 W1 := stI 0 S0 w W1 h0 (hE1.mod _)
  have hrun := hseq W1 hE1 (w.heap.size + 1) J X
    (fun k S W W' hj hm => by
      subst hJ
      obtain ⟨S1, rfl, h1, h2, h3, h4, h5, h6, h7⟩ := hj
      refine ⟨S1, rfl, h1, h2, stI k S1 W W' h3 (hm.mono fun b _ hb => ⟨by omega, fun h => hb.2 (hup1 _ _ h)⟩), h4.then hm (fun b hb h => by have := h.1; omega), h5, hold hm (by omega) h6, hold hm (by omega) h7⟩)
    (fun S W W' hj hm => by
      subst hX
      obtain ⟨S1, c, rfl, h1, h2, h3, h4, h5, h6, h7⟩ := hj
      refine ⟨S1, c, rfl, h1, h2, stX c S1 W W' h3 (hm.mono fun b _ hb => ⟨by omega, fun h => hb.2 (hup1 _ _ h)⟩), h4.then hm (fun b hb h => by have := h.1; omega), h5, hold hm (by omega) h6, hold hm (by omega) h7⟩)
    (fun k S W hj b hb => by
      subst hJ
      obtain ⟨S1, rfl, h1, h2, h3, h4, h5, h6, h7⟩ := hj
      rcases hupc hb with hb | rfl | rfl
      · exact bI k S1 W h3 b hb
      · exact hlt1 h7
      · exact hlt1 h6)
    (fun k S W hk hj => by
      rw [hJ] at hj
      obtain ⟨S1, rfl, h1, h2, h3, h4, h5, h6, h7⟩ := hj
      have hy := run_yield (P := P) (args := xs[k].toArray) h6 (by rw [hrec]; simpa using hps _ (List.getElem_mem hk))
      rw [hrec] at hy
      refine ⟨fn, _, assign, body, hy, roundIn_of_wpIn (F := Fence.wide) trivial ?_⟩
      have hoka : OK [] { tmps := (ps.zip xs[k].toArray).foldl (fun t (p, v) => t.setIfInBounds p v) a.tmps, defers := [] } (penv ps.toList xs[k] env) N := by
        have := OK.pset ps.toList xs[k] [] a.tmps env ⟨ha.size, rfl, ha.has⟩ hp
        have e : (ps.zip xs[k].toArray).foldl (fun t (p, v) => t.setIfInBounds p v) a.tmps = (ps.toList.zip xs[k]).foldl (fun t (p, v) => t.setIfInBounds p v) a.tmps := by
          rw [← Array.foldl_toList]
          simp
        rw [e]
        exact this
      refine wpIn_mono (hassign (w.heap.size + 1) k W hk (hlt1 h6) _ hoka) fun e a2 W2 h => ?_
      cases e with
      | normal =>
        obtain ⟨E, ho, hx, hae⟩ := h
        have hl2 := (hx.block _ (hlt1 h6)).trans h6
        refine ⟨_, run_beginRound hl2 (by rw [hrec]), ?_⟩
        have hI3 : I k S1 (W2.putObj (w.heap.size + 1) (.loop { rec .ready none with state := .busy })) :=
          stI k S1 _ _ (stI k S1 W W2 h3 (hx.mod _)) (Mod.put W2 _ ⟨by omega, h2⟩)
        have hm3 : Mod S0 w (W2.putObj (w.heap.size + 1) (.loop { rec .ready none with state := .busy })) :=
          h4.then (S' := fun b => w.heap.size ≤ b) ((hx.mod _).trans (Mod.put W2 _ (by omega))) (fun b hb h => by omega)
        refine wpIn_mono (hbody (w.heap.size + 1) k S1 _ E hk hI3 hm3 (hA k E _ _ hae (Mod.put W2 _ rfl)) a2 ho) fun e a4 W4 h => ?_
        cases e with
        | normal =>
          obtain ⟨S', hm, hS', hi⟩ := h
          obtain ⟨W5, hend, g1, g2, g3, g4, g5, g6, g7, g8, g9⟩ := fin k S1 W W2 W4 none S' hx h6 h1 h2 h4 h5 h7 hm hS'
          exact ⟨_, W5, hend, _, rfl, up S', g1, g2, .inl ⟨rfl, by rw [hJ]; exact ⟨S', rfl, g3, g4, stI _ _ _ _ hi g9, g5, g6, g7, g8⟩⟩⟩
        | ret =>
          obtain ⟨S', hm, hS', hi⟩ := h
          obtain ⟨W5, hend, g1, g2, g3, g4, g5, g6, g7, g8, g9⟩ := fin k S1 W W2 W4 (some .ret) S' hx h6 h1 h2 h4 h5 h7 hm hS'
          exact ⟨_, W5, hend, _, rfl, up S', g1, g2, .inr ⟨rfl, by rw [hX]; exact ⟨S', .ret, rfl, g3, g4, stX _ _ _ _ hi g9, g5, g6, g7, g8⟩⟩⟩
        | exit id =>
          obtain ⟨S', hm, hS', hi⟩ := h
          obtain ⟨W5, hend, g1, g2, g3, g4, g5, g6, g7, g8, g9⟩ := fin k S1 W W2 W4 (some (.exit id)) S' hx h6 h1 h2 h4 h5 h7 hm hS'
          exact ⟨_, W5, hend, _, rfl, up S', g1, g2, .inr ⟨rfl, by rw [hX]; exact ⟨S', .exit id, rfl, g3, g4, stX _ _ _ _ hi g9, g5, g6, g7, g8⟩⟩⟩
        | goto t => exact h.elim
        | panic c => exact h.elim
        | outgrown => exact h.elim
      | ret => exact h.elim
      | exit id => exact h.elim
      | goto t => exact h.elim
      | panic c => exact h.elim
      | outgrown => exact h.elim)
    (up S0) (fun b hb h => by
      have := hmem b hb
      rcases hupc h with h | h | h
      · exact this.1 h
      · omega
      · omega)
    (by
      rw [hJ]
      exact ⟨S0, rfl, fun h => by have := hb0 _ h; omega, fun h => by have := hb0 _ h; omega, hI0, hE1.mod _, fun _ _ h => h, hL1, hK1⟩)
  have hok : OK (mark w.heap.size :: dl) { a with defers := [mark w.heap.size] ++ a.defers } env N := ⟨ha.size, by rw [ha.defers]; rfl, ha.has⟩
  have hca : (#[.func (.yield (w.heap.size + 1)) #[] #[]] ++ caps.toArray : Array Value) = (.func (.yield (w.heap.size + 1)) #[] #[] :: caps).toArray := by simp
  rw [hca]
  refine callsIn_of (ro := none) (hrun.mono fun e W' h => ?_)
  obtain ⟨v, S', rfl, _, _, hh⟩ := h
  rcases hh with hh | hh
  · rw [hJ] at hh
    obtain ⟨S1, rfl, h1, h2, h3, h4, h5, h6, h7⟩ := hh
    refine ⟨_, _, run_endLoop h6 (by rw [hrec]; exact fun h => by cases h), ?_⟩
    rw [hrec]
    exact hdone w.heap.size S1 _ (Nat.le_refl _) (h4.then (S' := fun b => w.heap.size ≤ b) (Mod.put W' _ (by omega)) (fun b hb h => by omega)) h5 h1 ((World.putObj_heap_other (by omega)).trans h7)
      (stI _ _ _ _ h3 (Mod.put W' _ ⟨by omega, h2⟩)) _ hok
  · rw [hX] at hh
    obtain ⟨S1, c, rfl, h1, h2, h3, h4, h5, h6, h7⟩ := hh
    refine ⟨_, _, run_endLoop h6 (by rw [hrec]; exact fun h => by cases h), ?_⟩
    rw [hrec]
    exact hstop w.heap.size c S1 _ (Nat.le_refl _) (h4.then (S' := fun b => w.heap.size ≤ b) (Mod.put W' _ (by omega)) (fun b hb h => by omega)) h5 h1 ((World.putObj_heap_other (by omega)).trans h7)
      (stX _ _ _ _ h3 (Mod.put W' _ ⟨by omega, h2⟩)) _ hok
end
/-- The mark of a loop that is over. -/
def DR (w : World) (D : Nat) : Prop := w.heap[D]? = some (.deferred (some []))
theorem DR.ext {w w' : World} {D : Nat} (h : DR w D) (he : Ext w w') : DR w' D := Ext.obj he h
theorem DR.upd {w w' : World} {D b : Nat} (h : DR w D) (u : Upd b w w') (hn : D ≠ b) : DR w' D := (u.block D hn).trans h
section
variable {dl : List Deferred} {N : Nat} {env : List (Nat × Value)} {W w : World}
theorem AQ.assignedA {E : List (Nat × Value)} {A : List (Nat × Value) → World → Prop} {Q : Exit → Act → World → Prop} (ts : List Nat) (hs : XK.sub env ts = some E) (h : Ext W w) (ha : A E w) : AQ [] .normal (Exit.then (fun a W' => ∃ E, OK [] a E N ∧ Ext W W' ∧ A E W') Q) N env w := fun _ hk => ⟨E, hk.sub ts hs, h, ha⟩
end
end Go.XK
