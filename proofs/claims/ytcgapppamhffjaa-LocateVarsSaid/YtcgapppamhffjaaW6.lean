/- Locate: Find. -/
import Derived.Test.YtcgapppamhffjaaW5
namespace Go.Proofs.Ytcgapppamhffjaa
open Go.RowKit Go.XK Go.LocateLaw

-- linchpin/locate.Find: parameters ['api.Image', 'string'] (free 0), results [('ResultVar.cell', 4, 3), ('ResultVar.cell', 5, 4)], 15 slots
set_option maxRecDepth 100000 in
theorem find_any (cs : List Value) (inf : Inf) (s : ByteArray) (w : World) (hi : InfC w cs inf) :
    Calls Try.prog 9 [.agg cs.toArray, .string s].toArray w fun e w' => e = .returned (.tuple #[.int .i64 (findAt inf s), .bool (findB inf s)]) ∧ Ext w w' := by
  obtain ⟨mv, hev, hml⟩ := hi.2.1
  have hhd := List.head?_filter (p := fnP s) (l := inf.marks)
  refine calls_ofM Try.func9 rfl Try.ntmps9 rfl ?_
  refine EC.seq ?_
  -- region 0  locate.go:74
  refine EC.region (fun i => [2, 2, 2, 2].getD i 0) [0, 1, 2, 3] rfl ?_
  refine ER.st rfl rfl rfl rfl (fun w1 h1 => Stp.box rfl (fun w2 h2 s2 r2 => ⟨h2, ?_⟩))  -- 0.0: t2 := box
  refine ER.st rfl rfl rfl rfl (fun w3 h3 => Stp.box rfl (fun w4 h4 s4 r4 => ⟨h4, ?_⟩))  -- 0.1: t3 := box
  refine ER.st rfl rfl rfl rfl (fun w5 h5 => Stp.alloc inf3 (fun w6 h6 s6 r6 => ⟨h6, ?_⟩))  -- 0.2: t4 := alloc
  have hn4 := h5.size
  have hb4 := Nat.le_trans (((h1.trans h2).trans h3).trans h4).size h5.size
  have hl4 := r6.lt
  refine ER.st rfl rfl rfl rfl (fun w7 h7 => Stp.alloc inf4 (fun w8 h8 s8 r8 => ⟨h8, ?_⟩))  -- 0.3: t5 := alloc
  have hn5 := h7.size
  have hb5 := Nat.le_trans (((((h1.trans h2).trans h3).trans h4).trans h5).trans h6).size h7.size
  refine ER.nil (fun w9 h9 => ?_)
  refine AQ.then ?_
  refine EC.seq ?_
  refine EC.seq ?_
  -- region 1  locate.go:75
  refine EC.region (fun i => [1, 1, 0, 1, 2].getD i 0) [0, 1, 2, 3, 4] rfl ?_
  refine ER.sil rfl rfl rfl rfl (Sil.fieldAddr Try.underlying39 rfl inf36 rfl) ?_  -- 1.0: t7 := fieldAddr
  refine ER.sil rfl rfl rfl rfl (Sil.fieldAddr Try.underlying36 rfl inf29 rfl) ?_  -- 1.1: t8 := fieldAddr
  refine ER.ex rfl rfl rfl rfl (Exa.load flat29 rfl (((r2.ext ((((((h3.trans h4).trans h5).trans h6).trans h7).trans h8).trans h9))).cell hev)) ?_  -- 1.2: t9 := load
  refine ER.sil rfl rfl rfl rfl (Sil.makeFunc rfl rfl) ?_  -- 1.3: t10 := makeFunc
  have hes := (r8.ext h9).lt
  refine ER.st rfl rfl rfl rfl (fun w10 h10 => Stp.call fok22 rfl rfl (Calls.mono ((some_mkC_any mv _ w10 hml.isS3 ⟨_, _, _, rfl⟩)) ?_))  -- 1.4: t11 := call
  rintro _ w11 ⟨v11, rfl, h11, ⟨c1, c2, hv11, hc111, hc211, hl1, hl2⟩⟩
  refine ⟨_, rfl, h11, ?_⟩
  subst hv11
  have hes2 := h10.size
  refine ER.nil (fun w12 h12 => ?_)
  refine AQ.then ?_
  refine EC.block ?_
  have hw1 := (((((((((((h1.trans h2).trans h3).trans h4).trans h5).trans h6).trans h7).trans h8).trans h9).trans h10).trans h11).trans h12)
  have hx4 := (((((((h5.trans h6).trans h7).trans h8).trans h9).trans h10).trans h11).trans h12)
  have k40 := (r6.ext (((((h7.trans h8).trans h9).trans h10).trans h11).trans h12))
  have k50 := (r8.ext (((h9.trans h10).trans h11).trans h12))
  have hc1 := (hc111.ext h12)
  have hc2 := (hc211.ext h12)
  have hl5 := k50.lt
  refine EC.rangeA (xs := (((inf.marks.filter (fnP s)).map fun x => [Value.agg (mkC x).toArray]))) (mem := (fun b => b < w4.heap.size ∨ b = c1 ∨ b = c2)) rfl fok43 rfl (fun x hx => by obtain ⟨y, _, rfl⟩ := List.mem_map.1 hx; rfl)
    (fun j S1 W => S1 = (fun b => b = w5.heap.size ∨ b = w7.heap.size) ∧ Ext w W ∧ Row W w5.heap.size 3 [.int .i64 0] ∧ Row W w7.heap.size 4 [.bool false] ∧ j = 0)
    (fun c S1 W => c = .ret ∧ S1 = (fun b => b = w5.heap.size ∨ b = w7.heap.size) ∧ Ext w W ∧ Row W w5.heap.size 3 [.int .i64 (findAt inf s)] ∧ Row W w7.heap.size 4 [.bool (findB inf s)])
    (fun j S1 W W' h m => by
        obtain ⟨rfl, hx, g4, g5, h0⟩ := h
        exact ⟨rfl, hx.modify m (fun k hk => Nat.le_trans hw1.size hk.1), m.row g4 (fun hb => hb.2 (.inl rfl)), m.row g5 (fun hb => hb.2 (.inr rfl)), h0⟩) (fun c S1 W W' h m => by
        obtain ⟨hc, rfl, hx, g4, g5⟩ := h
        exact ⟨hc, rfl, hx.modify m (fun k hk => Nat.le_trans hw1.size hk.1), m.row g4 (fun hb => hb.2 (.inl rfl)), m.row g5 (fun hb => hb.2 (.inr rfl))⟩) (fun j S1 W h b hb => by
        obtain ⟨rfl, hx, g4, g5, h0⟩ := h
        rcases hb with rfl | rfl
        · exact g4.lt
        · exact g5.lt)
    (fun W1 hW => some_mkC_seq inf.marks mv _ [ptr w3.heap.size] (fnP s) w4 c1 c2 W1 (hx4.trans hW) (hml.ext (((h1.trans h2).trans h3).trans h4)) fok32 (fun x wz hz => find1_any x s w3.heap.size wz (r4.ext hz)) (hc1.ext hW) (hc2.ext hW)) ((fun b => b = w5.heap.size ∨ b = w7.heap.size)) (fun b hb => by
        have hxs := hx4.size
        rcases hb with h | rfl | rfl
        · exact ⟨fun hs => hs.elim (fun e => by omega) (fun e => by omega), by omega⟩
        · exact ⟨fun hs => hs.elim (fun e => by omega) (fun e => by omega), hc1.lt⟩
        · exact ⟨fun hs => hs.elim (fun e => by omega) (fun e => by omega), hc2.lt⟩) (⟨rfl, hw1, k40, k50, rfl⟩) (fun k E W => ∃ b, ∃ hk : k < (inf.marks.filter (fnP s)).length, E = [(4, ptr w5.heap.size), (5, ptr w7.heap.size), (6, ptr b)] ∧ Row W b 66 (mkC (inf.marks.filter (fnP s))[k]) ∧ w12.heap.size + 1 < b) (fun k E W W' h m => by
        obtain ⟨b, hk, rfl, h1, h2⟩ := h
        exact ⟨b, hk, rfl, m.row h1 (fun e => by omega), h2⟩) ?_ ?_ ?_ ?_
  · intro lr kr wr hkr hlr
    have hE := Ext.refl wr
    have hkr2 : kr < (inf.marks.filter (fnP s)).length := by simpa using hkr
    rw [List.getElem_map]
    -- region 2  locate.go:75
    refine EC.region (fun i => [2, 3].getD i 0) [0, 1] rfl ?_
    refine ER.st rfl rfl rfl rfl (fun w13 h13 => Stp.alloc inf66 (fun w14 h14 s14 r14 => ⟨h14, ?_⟩))  -- 2.0: t6 := alloc
    have hn6 := Nat.le_trans hE.size h13.size
    refine ER.bar rfl rfl rfl rfl (fun w15 h15 => Stp.store (by kernel_rfl) rfl rfl (r14.ext h15) rfl rfl (fun w16 u16 r16 => ?_))  -- 2.1: tNone := store
    have e16 := ((h13.trans h14).trans h15).upd u16 h13.size
    refine ER.nil (fun w17 h17 => ?_)
    exact AQ.assignedA (A := fun E W => (fun k E W => ∃ b, ∃ hk : k < (inf.marks.filter (fnP s)).length, E = [(4, ptr w5.heap.size), (5, ptr w7.heap.size), (6, ptr b)] ∧ Row W b 66 (mkC (inf.marks.filter (fnP s))[k]) ∧ w12.heap.size + 1 < b) kr E W) [4, 5, 6] rfl ((hE.trans e16).trans h17) (⟨_, by simpa using hkr, rfl, (r16.ext h17), by omega⟩)
  · intro lr kr Sr wr Er hkr hI hM hA
    have hE := Ext.refl wr
    obtain ⟨rfl, hx, g4, g5, rfl⟩ := hI
    obtain ⟨b6, hkr2, rfl, k6, hb6⟩ := hA
    have hfs : findS inf s = some (inf.marks.filter (fnP s))[0] := by
      rw [findS, ← hhd, List.head?_eq_getElem?, List.getElem?_eq_getElem hkr2]
    have hfa : findAt inf s = (inf.marks.filter (fnP s))[0].at_ := by rw [findAt, hfs]
    have hfb : findB inf s = true := by rw [findB, hfs]; rfl
    refine EC.block ?_
    refine EC.seq ?_
    -- region 3  locate.go:76
    refine EC.region (fun i => [1, 0, 3, 3].getD i 0) [0, 1, 2, 3] rfl ?_
    refine ER.sil rfl rfl rfl rfl (Sil.fieldAddr Try.underlying66 rfl inf3 rfl) ?_  -- 3.0: t13 := fieldAddr
    refine ER.ex rfl rfl rfl rfl (Exa.load flat3 rfl ((k6.ext hE).cell rfl)) ?_  -- 3.1: t14 := load
    --  -- 3.2: tNone := store
    refine ER.bar rfl rfl rfl rfl (fun w18 h18 => Stp.store (by kernel_rfl) rfl rfl (g4.ext (hE.trans h18)) rfl rfl (fun w19 u19 y4 => ?_))
    have x4 := (hx.trans (hE.trans h18)).upd u19 hb4
    have M4 := ((hE.trans h18).mod (fun b => b = w5.heap.size ∨ b = w7.heap.size)).trans (u19.mod (S := (fun b => b = w5.heap.size ∨ b = w7.heap.size)) (.inl rfl))
    have g5a := u19.row (g5.ext (hE.trans h18)) (by omega)
    --  -- 3.3: tNone := store
    refine ER.bar rfl rfl rfl rfl (fun w20 h20 => Stp.store (by kernel_rfl) rfl rfl (g5a.ext ((Ext.refl _).trans h20)) rfl rfl (fun w21 u21 y5 => ?_))
    have x5 := (x4.trans ((Ext.refl _).trans h20)).upd u21 hb5
    have M5 := (M4.trans (((Ext.refl _).trans h20).mod _)).trans (u21.mod (S := (fun b => b = w5.heap.size ∨ b = w7.heap.size)) (.inr rfl))
    have g4a := u21.row (y4.ext ((Ext.refl _).trans h20)) (by omega)
    refine ER.nil (fun w22 h22 => ?_)
    refine AQ.then ?_
    refine EC.ret ?_
    refine AQ.blockRet ?_
    exact AQ.rqR (fun b => b = w5.heap.size ∨ b = w7.heap.size) (M5.trans (h22.mod _)) (fun b _ h => h) ⟨rfl, rfl, x5.trans h22, by rw [hfa]; exact g4a.ext h22, by rw [hfb]; exact y5.ext h22⟩
  · intro D Sr wr hD hM hold hnD hDr hI
    have hE := Ext.refl wr
    obtain ⟨rfl, hx, g4, g5, hz⟩ := hI
    have dr : DR wr D := hDr
    have hfs : findS inf s = none := by
      rw [List.length_map] at hz
      rw [findS, ← hhd, List.eq_nil_of_length_eq_zero hz]
      rfl
    have hfa : findAt inf s = 0 := by rw [findAt, hfs]
    have hfb : findB inf s = false := by rw [findB, hfs]; rfl
    refine AQ.blockNormal ?_
    refine AQ.then ?_
    refine EC.seq ?_
    -- region 4  locate.go:78
    refine EC.region (fun i => [3, 3].getD i 0) [0, 1] rfl ?_
    refine ER.bar rfl rfl rfl rfl (fun w23 h23 => Stp.store (by kernel_rfl) rfl rfl (g4.ext h23) rfl rfl (fun w24 u24 r24 => ?_))  -- 4.0: tNone := store
    have b24 := (hx.trans h23).upd u24 hb4
    have x24_5 := u24.row (g5.ext h23) (by omega)
    have y24_dr := (dr.ext h23).upd u24 (by omega)
    refine ER.bar rfl rfl rfl rfl (fun w25 h25 => Stp.store (by kernel_rfl) rfl rfl (x24_5.ext h25) rfl rfl (fun w26 u26 r26 => ?_))  -- 4.1: tNone := store
    have b26 := (b24.trans h25).upd u26 hb5
    have x26_4 := u26.row (r24.ext h25) (by omega)
    have y26_dr := (y24_dr.ext h25).upd u26 (by omega)
    refine ER.nil (fun w27 h27 => ?_)
    refine AQ.then ?_
    refine EC.ret ?_
    exact AQ.outC (.inr rfl) [D] (fun dl a ha w' hm => resC2 Try.results9 rfl rfl (LV.flat flat3 (hm.row (x26_4.ext h27) (by simp; omega))) (LV.flat flat4 (hm.row (r26.ext h27) (by simp; omega))) dl a ha) (by simp) (by simpa [DR] using (y26_dr.ext h27)) (fun w' hm => ⟨by rw [hfa, hfb], (b26.trans h27).modify hm (fun k hk => by rw [List.mem_singleton] at hk; subst hk; exact Nat.le_trans hw1.size hD)⟩)
  · intro D c Sr wr hD hM hold hnD hDr hX
    have hE := Ext.refl wr
    obtain ⟨rfl, rfl, hx, g4, g5⟩ := hX
    refine EC.ret ?_
    refine AQ.blockRet ?_
    refine AQ.thenRet ?_
    exact AQ.outC (.inr rfl) [D] (fun dl a ha w' hm => resC2 Try.results9 rfl rfl (LV.flat flat3 (hm.row g4 (by simp; omega))) (LV.flat flat4 (hm.row g5 (by simp; omega))) dl a ha) (by simp) (by simpa [DR] using hDr) (fun w' hm => ⟨rfl, hx.modify hm (fun k hk => by rw [List.mem_singleton] at hk; subst hk; exact Nat.le_trans hw1.size hD)⟩)

end Go.Proofs.Ytcgapppamhffjaa
