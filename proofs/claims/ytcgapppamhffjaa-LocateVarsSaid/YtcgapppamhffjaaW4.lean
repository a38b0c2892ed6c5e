/- Locate: the last. -/
import Derived.Test.YtcgapppamhffjaaW3
import Derived.Test.YtcgapppamhffjaaRangeA
namespace Go.Proofs.Ytcgapppamhffjaa
open Go.RowKit Go.XK Go.LocateLaw

-- linchpin/locate.last[linchpin/api.Mark]: parameters ['iter.Seq[linchpin/api.Mark]'] (free 0), results [('ResultVar.cell', 2, 66), ('ResultVar.cell', 3, 4)], 10 slots
set_option maxRecDepth 100000 in
theorem last_mkC (xs : List Mk) (gf : Nat) (caps : List Value) (mem : Nat → Prop) (w : World) (hgf : FnOK Try.prog gf) (hmm : ∀ b, mem b → b < w.heap.size) (hseq : ∀ W, Ext w W → SeqC Try.prog gf caps mem (xs.map fun x => [Value.agg (mkC x).toArray]) W) :
    Calls Try.prog 21 [.func (.func gf) #[] caps.toArray].toArray w fun e w' => e = .returned (.tuple #[.agg (mkC (lastD mkZ xs)).toArray, .bool (lastB xs)]) ∧ Ext w w' := by
  refine calls_ofM Try.func21 rfl Try.ntmps21 rfl ?_
  refine EC.seq ?_
  -- region 0  locate.go:32
  refine EC.region (fun i => [2, 2].getD i 0) [0, 1] rfl ?_
  refine ER.st rfl rfl rfl rfl (fun w1 h1 => Stp.alloc inf66 (fun w2 h2 s2 r2 => ⟨h2, ?_⟩))  -- 0.0: t2 := alloc
  have hB2 := h1.size
  have hl1 := r2.lt
  refine ER.st rfl rfl rfl rfl (fun w3 h3 => Stp.alloc inf4 (fun w4 h4 s4 r4 => ⟨h4, ?_⟩))  -- 0.1: t3 := alloc
  have hB3 := Nat.le_trans (h1.trans h2).size h3.size
  have hne := Nat.lt_of_lt_of_le hl1 h3.size
  refine ER.nil (fun w5 h5 => ?_)
  refine AQ.then ?_
  refine EC.seq ?_
  refine EC.seq ?_
  -- region 1  locate.go:33
  refine EC.region (fun i => [1].getD i 0) [0] rfl ?_
  refine ER.sil rfl rfl rfl rfl (Sil.move rfl) ?_  -- 1.0: t5 := move
  refine ER.nil (fun w6 h6 => ?_)
  refine AQ.then ?_
  refine EC.block ?_
  have hw1 := (((((h1.trans h2).trans h3).trans h4).trans h5).trans h6)
  have k20 := (r2.ext (((h3.trans h4).trans h5).trans h6))
  have k30 := (r4.ext (h5.trans h6))
  have hl2 := k20.lt
  have hl3 := k30.lt
  refine EC.rangeA (xs := ((xs.map fun x => [Value.agg (mkC x).toArray]))) (mem := (mem)) rfl hgf rfl (fun x hx => by obtain ⟨y, _, rfl⟩ := List.mem_map.1 hx; rfl)
    (fun j S1 W => S1 = (fun b => b = w1.heap.size ∨ b = w3.heap.size) ∧ Ext w W ∧ Row W w1.heap.size 66 (mkC (lastD mkZ (xs.take j))) ∧ Row W w3.heap.size 4 [.bool (lastB (xs.take j))])
    (fun _ _ _ => False)
    (fun j S1 W W' h m => by
        obtain ⟨rfl, hx, g2, g3⟩ := h
        exact ⟨rfl, hx.modify m (fun k hk => Nat.le_trans hw1.size hk.1), m.row g2 (fun hb => hb.2 (.inl rfl)), m.row g3 (fun hb => hb.2 (.inr rfl))⟩) (fun _ _ _ _ h _ => h) (fun j S1 W h b hb => by
        obtain ⟨rfl, hx, g2, g3⟩ := h
        rcases hb with rfl | rfl
        · exact g2.lt
        · exact g3.lt)
    (fun W1 hW => hseq W1 (hw1.trans hW)) ((fun b => b = w1.heap.size ∨ b = w3.heap.size)) (fun b hb => ⟨fun hs => by have := hmm b hb; rcases hs with hs | hs <;> omega, Nat.lt_of_lt_of_le (hmm b hb) hw1.size⟩) (⟨rfl, hw1, k20, k30⟩) (fun k E W => ∃ b, ∃ hk : k < xs.length, E = [(2, ptr w1.heap.size), (3, ptr w3.heap.size), (4, ptr b)] ∧ Row W b 66 (mkC xs[k]) ∧ w6.heap.size + 1 < b) (fun k E W W' h m => by
        obtain ⟨b, hk, rfl, h1, h2⟩ := h
        exact ⟨b, hk, rfl, m.row h1 (fun e => by omega), h2⟩) ?_ ?_ ?_ ?_
  · intro lr kr wr hkr hlr
    have hE := Ext.refl wr
    have hkr2 : kr < xs.length := by simpa using hkr
    rw [List.getElem_map]
    -- region 2  locate.go:33
    refine EC.region (fun i => [2, 3].getD i 0) [0, 1] rfl ?_
    refine ER.st rfl rfl rfl rfl (fun w7 h7 => Stp.alloc inf66 (fun w8 h8 s8 r8 => ⟨h8, ?_⟩))  -- 2.0: t4 := alloc
    have hn4 := Nat.le_trans hE.size h7.size
    refine ER.bar rfl rfl rfl rfl (fun w9 h9 => Stp.store (by kernel_rfl) rfl rfl (r8.ext h9) rfl rfl (fun w10 u10 r10 => ?_))  -- 2.1: tNone := store
    have e10 := ((h7.trans h8).trans h9).upd u10 h7.size
    refine ER.nil (fun w11 h11 => ?_)
    exact AQ.assignedA (A := fun E W => (fun k E W => ∃ b, ∃ hk : k < xs.length, E = [(2, ptr w1.heap.size), (3, ptr w3.heap.size), (4, ptr b)] ∧ Row W b 66 (mkC xs[k]) ∧ w6.heap.size + 1 < b) kr E W) [2, 3, 4] rfl ((hE.trans e10).trans h11) (⟨_, by simpa using hkr, rfl, (r10.ext h11), by omega⟩)
  · intro lr kr Sr wr Er hkr hI hM hA
    have hE := Ext.refl wr
    obtain ⟨rfl, hx, g2, g3⟩ := hI
    obtain ⟨b4, hkr2, rfl, k4, hb4⟩ := hA
    refine EC.block ?_
    -- region 3  locate.go:34
    refine EC.region (fun i => [0, 3, 3].getD i 0) [0, 1, 2] rfl ?_
    refine ER.ex rfl rfl rfl rfl (Exa.loadAgg (vs := (mkC (xs[kr]))) agg66 rfl ((k4.ext hE).at)) ?_  -- 3.0: t7 := load
    --  -- 3.1: tNone := store
    refine ER.bar rfl rfl rfl rfl (fun w12 h12 => Stp.store (by kernel_rfl) rfl rfl (g2.ext (hE.trans h12)) rfl rfl (fun w13 u13 y2 => ?_))
    have x2 := (hx.trans (hE.trans h12)).upd u13 hB2
    have M2 := ((hE.trans h12).mod (fun b => b = w1.heap.size ∨ b = w3.heap.size)).trans (u13.mod (S := (fun b => b = w1.heap.size ∨ b = w3.heap.size)) (.inl rfl))
    have g3a := u13.row (g3.ext (hE.trans h12)) (by omega)
    --  -- 3.2: tNone := store
    refine ER.bar rfl rfl rfl rfl (fun w14 h14 => Stp.store (by kernel_rfl) rfl rfl (g3a.ext ((Ext.refl _).trans h14)) rfl rfl (fun w15 u15 y3 => ?_))
    have x3 := (x2.trans ((Ext.refl _).trans h14)).upd u15 hB3
    have M3 := (M2.trans (((Ext.refl _).trans h14).mod _)).trans (u15.mod (S := (fun b => b = w1.heap.size ∨ b = w3.heap.size)) (.inr rfl))
    have g2a := u15.row (y2.ext ((Ext.refl _).trans h14)) (by omega)
    refine ER.nil (fun w16 h16 => ?_)
    refine AQ.blockNormal ?_
    refine AQ.rqN (fun b => b = w1.heap.size ∨ b = w3.heap.size) (M3.trans (h16.mod _)) (fun b _ h => h) ⟨rfl, x3.trans h16, ?_, ?_⟩
    · rw [lastD_next hkr2]
      exact g2a.ext h16
    · rw [lastB_next hkr2]
      exact y3.ext h16
  · intro D Sr wr hD hM hold hnD hDr hI
    have hE := Ext.refl wr
    obtain ⟨rfl, hx, g2, g3⟩ := hI
    have dr : DR wr D := hDr
    refine AQ.blockNormal ?_
    refine AQ.then ?_
    refine EC.seq ?_
    -- region 4  locate.go:36
    refine EC.drawA (fun i => [0, 0, 3, 3].getD i 0) (by kernel_rfl) 4 rfl ?_
    refine EA.take 0 (by kernel_rfl) ?_
    intro c17
    refine EX.ex rfl rfl rfl rfl (Exa.loadAgg (vs := (mkC (lastD mkZ (xs.take (xs.map fun x => [Value.agg (mkC x).toArray]).length)))) agg66 rfl (g2.at)) ?_  -- 4.0: t8 := load
    refine EA.back c17 ?_
    refine EA.two 1 2 (by kernel_rfl) ?_ ?_
    ·
      intro c18
      refine EX.ex rfl rfl rfl rfl (Exa.load flat4 rfl (g3.cell rfl)) ?_  -- 4.1: t9 := load
      refine EA.back c18 ?_
      refine EA.only 2 (by kernel_rfl) ?_
      intro c19
      refine EX.bar rfl rfl rfl rfl (fun w20 h20 => Stp.store (by kernel_rfl) rfl rfl (g2.ext h20) rfl rfl (fun w21 u21 r21 => ?_))  -- 4.2: tNone := store
      have b21 := (hx.trans h20).upd u21 hB2
      have x21_3 := u21.row (g3.ext h20) (by omega)
      have y21_dr := (dr.ext h20).upd u21 (by omega)
      refine EA.back c19 ?_
      refine EA.only 3 (by kernel_rfl) ?_
      intro c22
      refine EX.bar rfl rfl rfl rfl (fun w23 h23 => Stp.store (by kernel_rfl) rfl rfl (x21_3.ext h23) rfl rfl (fun w24 u24 r24 => ?_))  -- 4.3: tNone := store
      have b24 := (b21.trans h23).upd u24 hB3
      have x24_2 := u24.row (r21.ext h23) (by omega)
      have y24_dr := (y21_dr.ext h23).upd u24 (by omega)
      refine EA.back c22 ?_
      refine EA.nil (by kernel_rfl) (fun w25 h25 => ?_)
      refine AQ.then ?_
      refine EC.ret ?_
      have hlx : (xs.map fun x => [Value.agg (mkC x).toArray]).length = xs.length := List.length_map _
      exact AQ.outC (.inr rfl) [D] (fun dl a ha w' hm => resC2 Try.results21 rfl rfl (LV.agg (hm.row (x24_2.ext h25) (by simp; omega)) agg66) (LV.flat flat4 (hm.row (r24.ext h25) (by simp; omega))) dl a ha) (by simp) (by simpa [DR] using (y24_dr.ext h25)) (fun w' hm => ⟨by rw [hlx, List.take_length]; rfl, (b24.trans h25).modify hm (fun k hk => by rw [List.mem_singleton] at hk; subst hk; exact Nat.le_trans hw1.size hD)⟩)
    ·
      intro c26
      refine EX.bar rfl rfl rfl rfl (fun w27 h27 => Stp.store (by kernel_rfl) rfl rfl (g2.ext h27) rfl rfl (fun w28 u28 r28 => ?_))  -- 4.2: tNone := store
      have b28 := (hx.trans h27).upd u28 hB2
      have x28_3 := u28.row (g3.ext h27) (by omega)
      have y28_dr := (dr.ext h27).upd u28 (by omega)
      refine EA.back c26 ?_
      refine EA.take 1 (by kernel_rfl) ?_
      intro c29
      refine EX.ex rfl rfl rfl rfl (Exa.load flat4 rfl (x28_3.cell rfl)) ?_  -- 4.1: t9 := load
      refine EA.back c29 ?_
      refine EA.only 3 (by kernel_rfl) ?_
      intro c30
      refine EX.bar rfl rfl rfl rfl (fun w31 h31 => Stp.store (by kernel_rfl) rfl rfl (x28_3.ext h31) rfl rfl (fun w32 u32 r32 => ?_))  -- 4.3: tNone := store
      have b32 := (b28.trans h31).upd u32 hB3
      have x32_2 := u32.row (r28.ext h31) (by omega)
      have y32_dr := (y28_dr.ext h31).upd u32 (by omega)
      refine EA.back c30 ?_
      refine EA.nil (by kernel_rfl) (fun w33 h33 => ?_)
      refine AQ.then ?_
      refine EC.ret ?_
      have hlx : (xs.map fun x => [Value.agg (mkC x).toArray]).length = xs.length := List.length_map _
      exact AQ.outC (.inr rfl) [D] (fun dl a ha w' hm => resC2 Try.results21 rfl rfl (LV.agg (hm.row (x32_2.ext h33) (by simp; omega)) agg66) (LV.flat flat4 (hm.row (r32.ext h33) (by simp; omega))) dl a ha) (by simp) (by simpa [DR] using (y32_dr.ext h33)) (fun w' hm => ⟨by rw [hlx, List.take_length]; rfl, (b32.trans h33).modify hm (fun k hk => by rw [List.mem_singleton] at hk; subst hk; exact Nat.le_trans hw1.size hD)⟩)
  · intro D c Sr wr hD hM hold hnD hDr hX
    have hE := Ext.refl wr
    exact hX.elim

-- linchpin/locate.last[linchpin/api.Line]: parameters ['iter.Seq[linchpin/api.Line]'] (free 0), results [('ResultVar.cell', 2, 74), ('ResultVar.cell', 3, 4)], 10 slots
set_option maxRecDepth 100000 in
theorem last_lnC (xs : List Ln) (gf : Nat) (caps : List Value) (mem : Nat → Prop) (w : World) (hgf : FnOK Try.prog gf) (hmm : ∀ b, mem b → b < w.heap.size) (hseq : ∀ W, Ext w W → SeqC Try.prog gf caps mem (xs.map fun x => [Value.agg (lnC x).toArray]) W) :
    Calls Try.prog 24 [.func (.func gf) #[] caps.toArray].toArray w fun e w' => e = .returned (.tuple #[.agg (lnC (lastD lnZ xs)).toArray, .bool (lastB xs)]) ∧ Ext w w' := by
  refine calls_ofM Try.func24 rfl Try.ntmps24 rfl ?_
  refine EC.seq ?_
  -- region 0  locate.go:32
  refine EC.region (fun i => [2, 2].getD i 0) [0, 1] rfl ?_
  refine ER.st rfl rfl rfl rfl (fun w1 h1 => Stp.alloc inf74 (fun w2 h2 s2 r2 => ⟨h2, ?_⟩))  -- 0.0: t2 := alloc
  have hB2 := h1.size
  have hl1 := r2.lt
  refine ER.st rfl rfl rfl rfl (fun w3 h3 => Stp.alloc inf4 (fun w4 h4 s4 r4 => ⟨h4, ?_⟩))  -- 0.1: t3 := alloc
  have hB3 := Nat.le_trans (h1.trans h2).size h3.size
  have hne := Nat.lt_of_lt_of_le hl1 h3.size
  refine ER.nil (fun w5 h5 => ?_)
  refine AQ.then ?_
  refine EC.seq ?_
  refine EC.seq ?_
  -- region 1  locate.go:33
  refine EC.region (fun i => [1].getD i 0) [0] rfl ?_
  refine ER.sil rfl rfl rfl rfl (Sil.move rfl) ?_  -- 1.0: t5 := move
  refine ER.nil (fun w6 h6 => ?_)
  refine AQ.then ?_
  refine EC.block ?_
  have hw1 := (((((h1.trans h2).trans h3).trans h4).trans h5).trans h6)
  have k20 := (r2.ext (((h3.trans h4).trans h5).trans h6))
  have k30 := (r4.ext (h5.trans h6))
  have hl2 := k20.lt
  have hl3 := k30.lt
  refine EC.rangeA (xs := ((xs.map fun x => [Value.agg (lnC x).toArray]))) (mem := (mem)) rfl hgf rfl (fun x hx => by obtain ⟨y, _, rfl⟩ := List.mem_map.1 hx; rfl)
    (fun j S1 W => S1 = (fun b => b = w1.heap.size ∨ b = w3.heap.size) ∧ Ext w W ∧ Row W w1.heap.size 74 (lnC (lastD lnZ (xs.take j))) ∧ Row W w3.heap.size 4 [.bool (lastB (xs.take j))])
    (fun _ _ _ => False)
    (fun j S1 W W' h m => by
        obtain ⟨rfl, hx, g2, g3⟩ := h
        exact ⟨rfl, hx.modify m (fun k hk => Nat.le_trans hw1.size hk.1), m.row g2 (fun hb => hb.2 (.inl rfl)), m.row g3 (fun hb => hb.2 (.inr rfl))⟩) (fun _ _ _ _ h _ => h) (fun j S1 W h b hb => by
        obtain ⟨rfl, hx, g2, g3⟩ := h
        rcases hb with rfl | rfl
        · exact g2.lt
        · exact g3.lt)
    (fun W1 hW => hseq W1 (hw1.trans hW)) ((fun b => b = w1.heap.size ∨ b = w3.heap.size)) (fun b hb => ⟨fun hs => by have := hmm b hb; rcases hs with hs | hs <;> omega, Nat.lt_of_lt_of_le (hmm b hb) hw1.size⟩) (⟨rfl, hw1, k20, k30⟩) (fun k E W => ∃ b, ∃ hk : k < xs.length, E = [(2, ptr w1.heap.size), (3, ptr w3.heap.size), (4, ptr b)] ∧ Row W b 74 (lnC xs[k]) ∧ w6.heap.size + 1 < b) (fun k E W W' h m => by
        obtain ⟨b, hk, rfl, h1, h2⟩ := h
        exact ⟨b, hk, rfl, m.row h1 (fun e => by omega), h2⟩) ?_ ?_ ?_ ?_
  · intro lr kr wr hkr hlr
    have hE := Ext.refl wr
    have hkr2 : kr < xs.length := by simpa using hkr
    rw [List.getElem_map]
    -- region 2  locate.go:33
    refine EC.region (fun i => [2, 3].getD i 0) [0, 1] rfl ?_
    refine ER.st rfl rfl rfl rfl (fun w7 h7 => Stp.alloc inf74 (fun w8 h8 s8 r8 => ⟨h8, ?_⟩))  -- 2.0: t4 := alloc
    have hn4 := Nat.le_trans hE.size h7.size
    refine ER.bar rfl rfl rfl rfl (fun w9 h9 => Stp.store (by kernel_rfl) rfl rfl (r8.ext h9) rfl rfl (fun w10 u10 r10 => ?_))  -- 2.1: tNone := store
    have e10 := ((h7.trans h8).trans h9).upd u10 h7.size
    refine ER.nil (fun w11 h11 => ?_)
    exact AQ.assignedA (A := fun E W => (fun k E W => ∃ b, ∃ hk : k < xs.length, E = [(2, ptr w1.heap.size), (3, ptr w3.heap.size), (4, ptr b)] ∧ Row W b 74 (lnC xs[k]) ∧ w6.heap.size + 1 < b) kr E W) [2, 3, 4] rfl ((hE.trans e10).trans h11) (⟨_, by simpa using hkr, rfl, (r10.ext h11), by omega⟩)
  · intro lr kr Sr wr Er hkr hI hM hA
    have hE := Ext.refl wr
    obtain ⟨rfl, hx, g2, g3⟩ := hI
    obtain ⟨b4, hkr2, rfl, k4, hb4⟩ := hA
    refine EC.block ?_
    -- region 3  locate.go:34
    refine EC.region (fun i => [0, 3, 3].getD i 0) [0, 1, 2] rfl ?_
    refine ER.ex rfl rfl rfl rfl (Exa.loadAgg (vs := (lnC (xs[kr]))) agg74 rfl ((k4.ext hE).at)) ?_  -- 3.0: t7 := load
    --  -- 3.1: tNone := store
    refine ER.bar rfl rfl rfl rfl (fun w12 h12 => Stp.store (by kernel_rfl) rfl rfl (g2.ext (hE.trans h12)) rfl rfl (fun w13 u13 y2 => ?_))
    have x2 := (hx.trans (hE.trans h12)).upd u13 hB2
    have M2 := ((hE.trans h12).mod (fun b => b = w1.heap.size ∨ b = w3.heap.size)).trans (u13.mod (S := (fun b => b = w1.heap.size ∨ b = w3.heap.size)) (.inl rfl))
    have g3a := u13.row (g3.ext (hE.trans h12)) (by omega)
    --  -- 3.2: tNone := store
    refine ER.bar rfl rfl rfl rfl (fun w14 h14 => Stp.store (by kernel_rfl) rfl rfl (g3a.ext ((Ext.refl _).trans h14)) rfl rfl (fun w15 u15 y3 => ?_))
    have x3 := (x2.trans ((Ext.refl _).trans h14)).upd u15 hB3
    have M3 := (M2.trans (((Ext.refl _).trans h14).mod _)).trans (u15.mod (S := (fun b => b = w1.heap.size ∨ b = w3.heap.size)) (.inr rfl))
    have g2a := u15.row (y2.ext ((Ext.refl _).trans h14)) (by omega)
    refine ER.nil (fun w16 h16 => ?_)
    refine AQ.blockNormal ?_
    refine AQ.rqN (fun b => b = w1.heap.size ∨ b = w3.heap.size) (M3.trans (h16.mod _)) (fun b _ h => h) ⟨rfl, x3.trans h16, ?_, ?_⟩
    · rw [lastD_next hkr2]
      exact g2a.ext h16
    · rw [lastB_next hkr2]
      exact y3.ext h16
  · intro D Sr wr hD hM hold hnD hDr hI
    have hE := Ext.refl wr
    obtain ⟨rfl, hx, g2, g3⟩ := hI
    have dr : DR wr D := hDr
    refine AQ.blockNormal ?_
    refine AQ.then ?_
    refine EC.seq ?_
    -- region 4  locate.go:36
    refine EC.drawA (fun i => [0, 0, 3, 3].getD i 0) (by kernel_rfl) 4 rfl ?_
    refine EA.take 0 (by kernel_rfl) ?_
    intro c17
    refine EX.ex rfl rfl rfl rfl (Exa.loadAgg (vs := (lnC (lastD lnZ (xs.take (xs.map fun x => [Value.agg (lnC x).toArray]).length)))) agg74 rfl (g2.at)) ?_  -- 4.0: t8 := load
    refine EA.back c17 ?_
    refine EA.two 1 2 (by kernel_rfl) ?_ ?_
    ·
      intro c18
      refine EX.ex rfl rfl rfl rfl (Exa.load flat4 rfl (g3.cell rfl)) ?_  -- 4.1: t9 := load
      refine EA.back c18 ?_
      refine EA.only 2 (by kernel_rfl) ?_
      intro c19
      refine EX.bar rfl rfl rfl rfl (fun w20 h20 => Stp.store (by kernel_rfl) rfl rfl (g2.ext h20) rfl rfl (fun w21 u21 r21 => ?_))  -- 4.2: tNone := store
      have b21 := (hx.trans h20).upd u21 hB2
      have x21_3 := u21.row (g3.ext h20) (by omega)
      have y21_dr := (dr.ext h20).upd u21 (by omega)
      refine EA.back c19 ?_
      refine EA.only 3 (by kernel_rfl) ?_
      intro c22
      refine EX.bar rfl rfl rfl rfl (fun w23 h23 => Stp.store (by kernel_rfl) rfl rfl (x21_3.ext h23) rfl rfl (fun w24 u24 r24 => ?_))  -- 4.3: tNone := store
      have b24 := (b21.trans h23).upd u24 hB3
      have x24_2 := u24.row (r21.ext h23) (by omega)
      have y24_dr := (y21_dr.ext h23).upd u24 (by omega)
      refine EA.back c22 ?_
      refine EA.nil (by kernel_rfl) (fun w25 h25 => ?_)
      refine AQ.then ?_
      refine EC.ret ?_
      have hlx : (xs.map fun x => [Value.agg (lnC x).toArray]).length = xs.length := List.length_map _
      exact AQ.outC (.inr rfl) [D] (fun dl a ha w' hm => resC2 Try.results24 rfl rfl (LV.agg (hm.row (x24_2.ext h25) (by simp; omega)) agg74) (LV.flat flat4 (hm.row (r24.ext h25) (by simp; omega))) dl a ha) (by simp) (by simpa [DR] using (y24_dr.ext h25)) (fun w' hm => ⟨by rw [hlx, List.take_length]; rfl, (b24.trans h25).modify hm (fun k hk => by rw [List.mem_singleton] at hk; subst hk; exact Nat.le_trans hw1.size hD)⟩)
    ·
      intro c26
      refine EX.bar rfl rfl rfl rfl (fun w27 h27 => Stp.store (by kernel_rfl) rfl rfl (g2.ext h27) rfl rfl (fun w28 u28 r28 => ?_))  -- 4.2: tNone := store
      have b28 := (hx.trans h27).upd u28 hB2
      have x28_3 := u28.row (g3.ext h27) (by omega)
      have y28_dr := (dr.ext h27).upd u28 (by omega)
      refine EA.back c26 ?_
      refine EA.take 1 (by kernel_rfl) ?_
      intro c29
      refine EX.ex rfl rfl rfl rfl (Exa.load flat4 rfl (x28_3.cell rfl)) ?_  -- 4.1: t9 := load
      refine EA.back c29 ?_
      refine EA.only 3 (by kernel_rfl) ?_
      intro c30
      refine EX.bar rfl rfl rfl rfl (fun w31 h31 => Stp.store (by kernel_rfl) rfl rfl (x28_3.ext h31) rfl rfl (fun w32 u32 r32 => ?_))  -- 4.3: tNone := store
      have b32 := (b28.trans h31).upd u32 hB3
      have x32_2 := u32.row (r28.ext h31) (by omega)
      have y32_dr := (y28_dr.ext h31).upd u32 (by omega)
      refine EA.back c30 ?_
      refine EA.nil (by kernel_rfl) (fun w33 h33 => ?_)
      refine AQ.then ?_
      refine EC.ret ?_
      have hlx : (xs.map fun x => [Value.agg (lnC x).toArray]).length = xs.length := List.length_map _
      exact AQ.outC (.inr rfl) [D] (fun dl a ha w' hm => resC2 Try.results24 rfl rfl (LV.agg (hm.row (x32_2.ext h33) (by simp; omega)) agg74) (LV.flat flat4 (hm.row (r32.ext h33) (by simp; omega))) dl a ha) (by simp) (by simpa [DR] using (y32_dr.ext h33)) (fun w' hm => ⟨by rw [hlx, List.take_length]; rfl, (b32.trans h33).modify hm (fun k hk => by rw [List.mem_singleton] at hk; subst hk; exact Nat.le_trans hw1.size hD)⟩)
  · intro D c Sr wr hD hM hold hnD hDr hX
    have hE := Ext.refl wr
    exact hX.elim

end Go.Proofs.Ytcgapppamhffjaa
