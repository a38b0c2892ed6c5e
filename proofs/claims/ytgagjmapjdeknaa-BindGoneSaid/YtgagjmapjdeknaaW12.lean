/- Bind: the program's Find. -/
import Derived.Test.YtgagjmapjdeknaaW11
namespace Go.Proofs.Ytgagjmapjdeknaa
open Go.RowKit Go.XK Go.BindLaw

-- linchpin/bind.Find: parameters ['[]api.Module', 'int', 'string', 'string'] (free 0), results [('ResultVar.cell', 8, 3), ('ResultVar.cell', 9, 3), ('ResultVar.cell', 10, 4)], 34 slots
set_option maxRecDepth 100000 in
theorem Find_any (ms : List Mo) (v : Value) (m : Int) (name want : ByteArray) (w : World) (hms : Mods w v ms) (hm8 : ms.length ≤ 1000) :
    Calls Try.prog 10 [v, .int .i64 m, .string name, .string want].toArray w fun e w' => e = .returned (.tuple #[.int .i64 (fMod ms (scopeL ms m) name want), .int .i64 (fExp ms (scopeL ms m) name want), .bool (fOk ms (scopeL ms m) name want)]) ∧ Ext w w' := by
  have hlen := scopeL_len ms m
  obtain ⟨sa, sc, rfl, _⟩ := hms.isS
  refine calls_ofM Try.func10 rfl Try.ntmps10 rfl ?_
  refine EC.seq ?_
  -- region 0  bind.go:109
  refine EC.region (fun i => [2, 2, 2, 2, 2, 2].getD i 0) [0, 1, 2, 3, 4, 5] rfl ?_
  refine ER.st rfl rfl rfl rfl (fun w1 h1 => Stp.box rfl (fun w2 h2 s2 r2 => ⟨h2, ?_⟩))  -- 0.0: t4 := box
  have n0 := h1.size
  refine ER.st rfl rfl rfl rfl (fun w3 h3 => Stp.box rfl (fun w4 h4 s4 r4 => ⟨h4, ?_⟩))  -- 0.1: t6 := box
  have n1 := h3.size
  refine ER.st rfl rfl rfl rfl (fun w5 h5 => Stp.box rfl (fun w6 h6 s6 r6 => ⟨h6, ?_⟩))  -- 0.2: t7 := box
  have n2 := h5.size
  refine ER.st rfl rfl rfl rfl (fun w7 h7 => Stp.alloc inf3 (fun w8 h8 s8 r8 => ⟨h8, ?_⟩))  -- 0.3: t8 := alloc
  have n3 := h7.size
  refine ER.st rfl rfl rfl rfl (fun w9 h9 => Stp.alloc inf3 (fun w10 h10 s10 r10 => ⟨h10, ?_⟩))  -- 0.4: t9 := alloc
  have n4 := h9.size
  refine ER.st rfl rfl rfl rfl (fun w11 h11 => Stp.alloc inf4 (fun w12 h12 s12 r12 => ⟨h12, ?_⟩))  -- 0.5: t10 := alloc
  have n5 := h11.size
  refine ER.nil (fun w13 h13 => ?_)
  refine AQ.then ?_
  refine EC.seq ?_
  refine EC.seq ?_
  -- region 1  bind.go:110
  refine EC.region (fun i => [0, 1, 2].getD i 0) [0, 1, 2] rfl ?_
  refine ER.ex rfl rfl rfl rfl (Exa.load flat22 rfl ((r2.ext ((((((((((h3.trans h4).trans h5).trans h6).trans h7).trans h8).trans h9).trans h10).trans h11).trans h12).trans h13)).cell rfl)) ?_  -- 1.0: t15 := load
  refine ER.sil rfl rfl rfl rfl (Sil.move rfl) ?_  -- 1.1: t16 := move
  have hes := (r12.ext h13).lt
  refine ER.st rfl rfl rfl rfl (fun w14 h14 => Stp.call fok22 rfl rfl (Calls.mono ((scope_any m _ w14 hms.isS3)) ?_))  -- 1.2: t17 := call
  rintro _ w15 ⟨v15, rfl, h15, ⟨c1, c2, hv15, hc115, hc215, hl1, hl2⟩⟩
  refine ⟨v15, rfl, h15, ?_⟩
  subst hv15
  have hes2 := h14.size
  refine ER.nil (fun w16 h16 => ?_)
  refine AQ.then ?_
  refine EC.block ?_
  have hw1 := (((((((((((((((h1.trans h2).trans h3).trans h4).trans h5).trans h6).trans h7).trans h8).trans h9).trans h10).trans h11).trans h12).trans h13).trans h14).trans h15).trans h16)
  have k40 := (r2.ext (((((((((((((h3.trans h4).trans h5).trans h6).trans h7).trans h8).trans h9).trans h10).trans h11).trans h12).trans h13).trans h14).trans h15).trans h16))
  have k60 := (r4.ext (((((((((((h5.trans h6).trans h7).trans h8).trans h9).trans h10).trans h11).trans h12).trans h13).trans h14).trans h15).trans h16))
  have k70 := (r6.ext (((((((((h7.trans h8).trans h9).trans h10).trans h11).trans h12).trans h13).trans h14).trans h15).trans h16))
  have k80 := (r8.ext (((((((h9.trans h10).trans h11).trans h12).trans h13).trans h14).trans h15).trans h16))
  have k90 := (r10.ext (((((h11.trans h12).trans h13).trans h14).trans h15).trans h16))
  have k100 := (r12.ext (((h13.trans h14).trans h15).trans h16))
  have hc1 := (hc115.ext h16)
  have hc2 := (hc215.ext h16)
  have hl5 := k100.lt
  have hB8 : w.heap.size ≤ w7.heap.size := by omega
  have hB9 : w.heap.size ≤ w9.heap.size := by omega
  have hB10 : w.heap.size ≤ w11.heap.size := by omega
  refine EC.range (xs := (((scopeL ms m).map fun y => [Value.int .i64 y]))) (mem := (fun b => b < w.heap.size ∨ b = c1 ∨ b = c2)) rfl fok28 rfl (fun x hx => by obtain ⟨y, _, rfl⟩ := List.mem_map.1 hx; rfl)
    (fun j S1 W => S1 = (fun b => b = w7.heap.size ∨ b = w9.heap.size ∨ b = w11.heap.size) ∧ Ext w W ∧ Row W w7.heap.size 3 [.int .i64 0] ∧ Row W w9.heap.size 3 [.int .i64 0] ∧ Row W w11.heap.size 4 [.bool false] ∧ ∀ i (h : i < (scopeL ms m).length), i < j → isHit ms name want (scopeL ms m)[i] = false)
    (fun c S1 W => c = .ret ∧ S1 = (fun b => b = w7.heap.size ∨ b = w9.heap.size ∨ b = w11.heap.size) ∧ Ext w W ∧ Row W w7.heap.size 3 [.int .i64 (fMod ms (scopeL ms m) name want)] ∧ Row W w9.heap.size 3 [.int .i64 (fExp ms (scopeL ms m) name want)] ∧ Row W w11.heap.size 4 [.bool (fOk ms (scopeL ms m) name want)])
    (fun j S1 W W' h m => by
        obtain ⟨rfl, hx, g8, g9, g10, hno⟩ := h
        exact ⟨rfl, hx.modify m (fun k hk => Nat.le_trans hw1.size hk.1), m.row g8 (fun hb => hb.2 (.inl rfl)), m.row g9 (fun hb => hb.2 (.inr (.inl rfl))), m.row g10 (fun hb => hb.2 (.inr (.inr rfl))), hno⟩) (fun c S1 W W' h m => by
        obtain ⟨hc, rfl, hx, g8, g9, g10⟩ := h
        exact ⟨hc, rfl, hx.modify m (fun k hk => Nat.le_trans hw1.size hk.1), m.row g8 (fun hb => hb.2 (.inl rfl)), m.row g9 (fun hb => hb.2 (.inr (.inl rfl))), m.row g10 (fun hb => hb.2 (.inr (.inr rfl)))⟩) (fun j S1 W h b hb => by
        obtain ⟨rfl, hx, g8, g9, g10, hno⟩ := h
        rcases hb with rfl | rfl | rfl
        · exact g8.lt
        · exact g9.lt
        · exact g10.lt)
    (fun W1 hW => scope_seq ms _ m w c1 c2 W1 (hw1.trans hW) hms (hc1.ext hW) (hc2.ext hW) hm8) ((fun b => b = w7.heap.size ∨ b = w9.heap.size ∨ b = w11.heap.size)) (fun b hb => by
        rcases hb with h | rfl | rfl
        · exact ⟨fun hs => by omega, Nat.lt_of_lt_of_le h hw1.size⟩
        · exact ⟨fun hs => by omega, hc1.lt⟩
        · exact ⟨fun hs => by omega, hc2.lt⟩) (⟨rfl, hw1, k80, k90, k100, fun i _ h => absurd h (Nat.not_lt_zero i)⟩) (fun j => [(4, ptr w1.heap.size), (6, ptr w3.heap.size), (7, ptr w5.heap.size), (8, ptr w7.heap.size), (9, ptr w9.heap.size), (10, ptr w11.heap.size), (11, .int .i64 ((scopeL ms m).getD j 0))]) ?_ ?_ ?_ ?_
  · intro lr kr wr hkr
    have hE := Ext.refl wr
    rw [map_get]
    -- region 2  bind.go:110
    refine EC.region (fun i => [1].getD i 0) [0] rfl ?_
    refine ER.sil rfl rfl rfl rfl (Sil.assign rfl) ?_  -- 2.0: t11 := assign
    refine ER.nil (fun w17 h17 => ?_)
    exact AQ.assigned [4, 6, 7, 8, 9, 10, 11] rfl (hE.trans h17)
  · intro lr kr Sr wr hkr hI hM
    have hE := Ext.refl wr
    obtain ⟨rfl, hx, g8, g9, g10, hno⟩ := hI
    have hkr2 : kr < (scopeL ms m).length := by simpa using hkr
    have hcg : (scopeL ms m).getD kr 0 = (scopeL ms m)[kr] := by simp [hkr2]
    have hin : InR ms ((scopeL ms m).getD kr 0) := by rw [hcg]; exact scopeL_in _ (List.getElem_mem hkr2)
    obtain ⟨ics, hicl, hiat, himc, hione⟩ := hms.image hin
    have k4 := hM.row k40 (fun hs => by omega)
    have k6 := hM.row k60 (fun hs => by omega)
    have k7 := hM.row k70 (fun hs => by omega)
    refine EC.block ?_
    refine EC.seq ?_
    -- region 3  bind.go:111
    refine EC.draw (fun i => [0, 1, 1, 1, 0, 0, 0, 0, 1, 1, 1, 1, 1, 1, 1].getD i 0) [0, 1, 2, 3, 4, 5, 6, 7, 8, 9, 10, 11, 12, 13, 14] (by kernel_rfl) (by kernel_rfl) ?_
    refine ER.ex rfl rfl rfl rfl (Exa.load flat22 rfl (k4.cell rfl)) ?_  -- 3.0: t20 := load
    refine ER.sil rfl rfl rfl rfl (Sil.move rfl) ?_  -- 3.1: t21 := move
    refine ER.sil rfl rfl rfl rfl (Sil.indexR Try.underlying22 inf56 rfl rfl (Mods.isE hms (by have := hin.1; have := hin.2; omega)) (hin.1) (hin.2)) ?_  -- 3.2: t22 := indexAddr
    refine ER.sil rfl rfl rfl rfl (Sil.fieldAddr Try.underlying56 rfl inf54 rfl) ?_  -- 3.3: t23 := fieldAddr
    refine ER.ex rfl rfl rfl rfl (Exa.loadAgg (vs := ics) (by rw [hicl]; exact agg54) rfl (hiat.ext (hx.trans hE))) ?_  -- 3.4: t24 := load
    refine ER.ex rfl rfl rfl rfl (Exa.load flat9 rfl (k6.cell rfl)) ?_  -- 3.5: t25 := load
    refine ER.ex rfl rfl rfl rfl (Exa.load flat9 rfl (k7.cell rfl)) ?_  -- 3.6: t26 := load
    have hx_ := hx
    refine ER.ex rfl rfl rfl rfl (Exa.call fok23 rfl rfl (fun wx hx => (offers_any ics (moAt ms ((scopeL ms m).getD kr 0)) name want wx (himc.ext ((hx_.trans hE).trans hx))))) ?_  -- 3.7: t27 := call
    refine ER.sil rfl rfl rfl rfl (Sil.move rfl) ?_  -- 3.8: t19 := move
    refine ER.sil rfl rfl rfl rfl (Sil.extract rfl rfl) ?_  -- 3.9: t28 := extract
    refine ER.sil rfl rfl rfl rfl (Sil.extract rfl rfl) ?_  -- 3.10: t29 := extract
    refine ER.sil rfl rfl rfl rfl (Sil.extract rfl rfl) ?_  -- 3.11: t30 := extract
    refine ER.sil rfl rfl rfl rfl (Sil.assign rfl) ?_  -- 3.12: t12 := assign
    refine ER.sil rfl rfl rfl rfl (Sil.assign rfl) ?_  -- 3.13: t13 := assign
    refine ER.sil rfl rfl rfl rfl (Sil.assign rfl) ?_  -- 3.14: t14 := assign
    refine ER.nil (fun w18 h18 => ?_)
    refine AQ.then ?_
    refine EC.seq ?_
    -- region 4  bind.go:111
    refine EC.region (fun i => [1].getD i 0) [0] rfl ?_
    refine ER.sil rfl rfl rfl rfl (Sil.move rfl) ?_  -- 4.0: t31 := move
    refine ER.nil (fun w19 h19 => ?_)
    refine AQ.then ?_
    refine EC.cond rfl (fun hb0 => ?_) (fun hb0 => ?_)  -- cond 0: t31
    ·
      refine EC.seq ?_
      -- region 5  bind.go:112
      refine EC.region (fun i => [1, 1, 3, 3, 3].getD i 0) [0, 1, 2, 3, 4] rfl ?_
      refine ER.sil rfl rfl rfl rfl (Sil.move rfl) ?_  -- 5.0: t32 := move
      refine ER.sil rfl rfl rfl rfl (Sil.move rfl) ?_  -- 5.1: t33 := move
      --  -- 5.2: tNone := store
      refine ER.bar rfl rfl rfl rfl (fun w20 h20 => Stp.store (by kernel_rfl) rfl rfl (g8.ext (((hE.trans h18).trans h19).trans h20)) rfl rfl (fun w21 u21 y8 => ?_))
      have x8 := (hx.trans (((hE.trans h18).trans h19).trans h20)).upd u21 hB8
      have M8 := ((((hE.trans h18).trans h19).trans h20).mod (fun b => b = w7.heap.size ∨ b = w9.heap.size ∨ b = w11.heap.size)).trans (u21.mod (S := (fun b => b = w7.heap.size ∨ b = w9.heap.size ∨ b = w11.heap.size)) (.inl rfl))
      have g98 := u21.row (g9.ext (((hE.trans h18).trans h19).trans h20)) (by omega)
      have g108 := u21.row (g10.ext (((hE.trans h18).trans h19).trans h20)) (by omega)
      --  -- 5.3: tNone := store
      refine ER.bar rfl rfl rfl rfl (fun w22 h22 => Stp.store (by kernel_rfl) rfl rfl (g98.ext ((Ext.refl _).trans h22)) rfl rfl (fun w23 u23 y9 => ?_))
      have x9 := (x8.trans ((Ext.refl _).trans h22)).upd u23 hB9
      have M9 := (M8.trans (((Ext.refl _).trans h22).mod _)).trans (u23.mod (S := (fun b => b = w7.heap.size ∨ b = w9.heap.size ∨ b = w11.heap.size)) (.inr (.inl rfl)))
      have g89 := u23.row (y8.ext ((Ext.refl _).trans h22)) (by omega)
      have g109 := u23.row (g108.ext ((Ext.refl _).trans h22)) (by omega)
      --  -- 5.4: tNone := store
      refine ER.bar rfl rfl rfl rfl (fun w24 h24 => Stp.store (by kernel_rfl) rfl rfl (g109.ext ((Ext.refl _).trans h24)) rfl rfl (fun w25 u25 y10 => ?_))
      have x10 := (x9.trans ((Ext.refl _).trans h24)).upd u25 hB10
      have M10 := (M9.trans (((Ext.refl _).trans h24).mod _)).trans (u25.mod (S := (fun b => b = w7.heap.size ∨ b = w9.heap.size ∨ b = w11.heap.size)) (.inr (.inr rfl)))
      have g8f := u25.row (g89.ext ((Ext.refl _).trans h24)) (by omega)
      have g9f := u25.row (y9.ext ((Ext.refl _).trans h24)) (by omega)
      refine ER.nil (fun w26 h26 => ?_)
      refine AQ.then ?_
      refine EC.ret ?_
      refine AQ.blockRet ?_
      obtain ⟨e1, e2, e3, _⟩ := f_hit hkr2 hb0 hno
      exact AQ.rqR (fun b => b = w7.heap.size ∨ b = w9.heap.size ∨ b = w11.heap.size) (M10.trans (h26.mod _)) (fun b _ h => h) ⟨rfl, rfl, x10.trans h26, by rw [e1]; exact g8f.ext h26, by rw [e2]; exact g9f.ext h26, by rw [e3]; exact y10.ext h26⟩
    ·
      refine EC.skip ?_
      refine AQ.blockNormal ?_
      exact AQ.rqN (fun b => b = w7.heap.size ∨ b = w9.heap.size ∨ b = w11.heap.size) (((hE.trans h18).trans h19).mod _) (fun b _ h => h) ⟨rfl, hx.trans ((hE.trans h18).trans h19), g8.ext ((hE.trans h18).trans h19), g9.ext ((hE.trans h18).trans h19), g10.ext ((hE.trans h18).trans h19), noHit_next hkr2 hb0 hno⟩
  · intro D Sr wr hD hM hold hnD hDr hI
    have hE := Ext.refl wr
    obtain ⟨rfl, hx, g8, g9, g10, hno⟩ := hI
    have hll : ((scopeL ms m).map fun y => [Value.int .i64 y]).length = (scopeL ms m).length := List.length_map _
    replace hno : ∀ j (h : j < (scopeL ms m).length), isHit ms name want (scopeL ms m)[j] = false := fun j h => hno j h (by rw [hll]; exact h)
    refine AQ.blockNormal ?_
    refine AQ.then ?_
    refine EC.seq ?_
    -- region 6  bind.go:115
    refine EC.region (fun i => [3, 3, 3].getD i 0) [0, 1, 2] rfl ?_
    --  -- 6.0: tNone := store
    refine ER.bar rfl rfl rfl rfl (fun w27 h27 => Stp.store (by kernel_rfl) rfl rfl (g8.ext (hE.trans h27)) rfl rfl (fun w28 u28 y8 => ?_))
    have x8 := (hx.trans (hE.trans h27)).upd u28 hB8
    have D8 := (u28.block D (by omega)).trans (Ext.obj (hE.trans h27) hDr)
    have g98 := u28.row (g9.ext (hE.trans h27)) (by omega)
    have g108 := u28.row (g10.ext (hE.trans h27)) (by omega)
    --  -- 6.1: tNone := store
    refine ER.bar rfl rfl rfl rfl (fun w29 h29 => Stp.store (by kernel_rfl) rfl rfl (g98.ext ((Ext.refl _).trans h29)) rfl rfl (fun w30 u30 y9 => ?_))
    have x9 := (x8.trans ((Ext.refl _).trans h29)).upd u30 hB9
    have D9 := (u30.block D (by omega)).trans (Ext.obj ((Ext.refl _).trans h29) D8)
    have g89 := u30.row (y8.ext ((Ext.refl _).trans h29)) (by omega)
    have g109 := u30.row (g108.ext ((Ext.refl _).trans h29)) (by omega)
    --  -- 6.2: tNone := store
    refine ER.bar rfl rfl rfl rfl (fun w31 h31 => Stp.store (by kernel_rfl) rfl rfl (g109.ext ((Ext.refl _).trans h31)) rfl rfl (fun w32 u32 y10 => ?_))
    have x10 := (x9.trans ((Ext.refl _).trans h31)).upd u32 hB10
    have D10 := (u32.block D (by omega)).trans (Ext.obj ((Ext.refl _).trans h31) D9)
    have g8f := u32.row (g89.ext ((Ext.refl _).trans h31)) (by omega)
    have g9f := u32.row (y9.ext ((Ext.refl _).trans h31)) (by omega)
    refine ER.nil (fun w33 h33 => ?_)
    refine AQ.then ?_
    refine EC.ret ?_
    exact AQ.outC (.inr rfl) [D] (fun dl a ha w' hm => resC3 Try.results10 flat3 flat3 flat4 rfl rfl rfl (hm.row (g8f.ext h33) (by simp; omega)) (hm.row (g9f.ext h33) (by simp; omega)) (hm.row (y10.ext h33) (by simp; omega)) dl a ha) (by simp) (by simpa using Ext.obj h33 D10) (fun w' hm => ⟨by rw [(f_miss hno).1, (f_miss hno).2.1, (f_miss hno).2.2.1], (x10.trans h33).modify hm (fun k hk => by rw [List.mem_singleton] at hk; subst hk; exact Nat.le_trans hw1.size hD)⟩)
  · intro D c Sr wr hD hM hold hnD hDr hX
    have hE := Ext.refl wr
    obtain ⟨rfl, rfl, hx, g8, g9, g10⟩ := hX
    refine EC.ret ?_
    refine AQ.blockRet ?_
    refine AQ.thenRet ?_
    exact AQ.outC (.inr rfl) [D] (fun dl a ha w' hm => resC3 Try.results10 flat3 flat3 flat4 rfl rfl rfl (hm.row g8 (by simp; omega)) (hm.row g9 (by simp; omega)) (hm.row g10 (by simp; omega)) dl a ha) (by simp) (by simpa using hDr) (fun w' hm => ⟨rfl, hx.modify hm (fun k hk => by rw [List.mem_singleton] at hk; subst hk; exact Nat.le_trans hw1.size hD)⟩)

end Go.Proofs.Ytgagjmapjdeknaa
