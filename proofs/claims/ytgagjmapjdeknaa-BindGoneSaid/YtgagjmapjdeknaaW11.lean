/- Bind: the program's Why. -/
import Derived.Test.YtgagjmapjdeknaaW10
namespace Go.Proofs.Ytgagjmapjdeknaa
open Go.RowKit Go.XK Go.BindLaw

-- linchpin/bind.Why: parameters ['[]api.Module', 'int', 'string', 'string'] (free 0), results [('ResultVar.tmp', 8)], 38 slots
set_option maxRecDepth 100000 in
theorem Why_any (ms : List Mo) (v : Value) (m : Int) (name want : ByteArray) (w : World) (hms : Mods w v ms) (hm8 : ms.length ≤ 1000) :
    Calls Try.prog 17 [v, .int .i64 m, .string name, .string want].toArray w fun e w' => ∃ v', e = .returned v' ∧ Ext w w' ∧ Refs w' v' (whyL ms (scopeL ms m) name want) := by
  have hlen := scopeL_len ms m
  obtain ⟨sa, sc, rfl, _⟩ := hms.isS
  refine calls_ofM Try.func17 rfl Try.ntmps17 rfl ?_
  refine EC.seq ?_
  -- region 0  bind.go:127
  refine EC.region (fun i => [2, 2, 2, 1].getD i 0) [0, 1, 2, 3] rfl ?_
  refine ER.st rfl rfl rfl rfl (fun w1 h1 => Stp.box rfl (fun w2 h2 s2 r2 => ⟨h2, ?_⟩))  -- 0.0: t4 := box
  have n0 := h1.size
  refine ER.st rfl rfl rfl rfl (fun w3 h3 => Stp.box rfl (fun w4 h4 s4 r4 => ⟨h4, ?_⟩))  -- 0.1: t6 := box
  refine ER.st rfl rfl rfl rfl (fun w5 h5 => Stp.box rfl (fun w6 h6 s6 r6 => ⟨h6, ?_⟩))  -- 0.2: t7 := box
  refine ER.sil rfl rfl rfl rfl (Sil.assign rfl) ?_  -- 0.3: t8 := assign
  refine ER.nil (fun w7 h7 => ?_)
  refine AQ.then ?_
  refine EC.seq ?_
  -- region 1  bind.go:128
  refine EC.region (fun i => [2].getD i 0) [0] rfl ?_
  have n1 := ((((((h1.trans h2).trans h3).trans h4).trans h5).trans h6).trans h7).size
  have n4 := (r2.ext ((((h3.trans h4).trans h5).trans h6).trans h7)).lt
  have n6 := (r4.ext ((h5.trans h6).trans h7)).lt
  have n7 := (r6.ext h7).lt
  refine ER.st rfl rfl rfl rfl (fun w8 h8 => Stp.alloc inf31 (fun w9 h9 s9 r9 => ⟨h9, ?_⟩))  -- 1.0: t9 := alloc
  have n2 := h8.size
  have hB5 := Nat.le_trans n1 n2
  refine ER.nil (fun w10 h10 => ?_)
  refine AQ.then ?_
  refine EC.seq ?_
  refine EC.seq ?_
  -- region 2  bind.go:129
  refine EC.region (fun i => [0, 1, 2].getD i 0) [0, 1, 2] rfl ?_
  refine ER.ex rfl rfl rfl rfl (Exa.load flat22 rfl ((r2.ext (((((((h3.trans h4).trans h5).trans h6).trans h7).trans h8).trans h9).trans h10)).cell rfl)) ?_  -- 2.0: t14 := load
  refine ER.sil rfl rfl rfl rfl (Sil.move rfl) ?_  -- 2.1: t15 := move
  have hes := (r9.ext h10).lt
  refine ER.st rfl rfl rfl rfl (fun w11 h11 => Stp.call fok22 rfl rfl (Calls.mono ((scope_any m _ w11 hms.isS3)) ?_))  -- 2.2: t16 := call
  rintro _ w12 ⟨v12, rfl, h12, ⟨c1, c2, hv12, hc112, hc212, hl1, hl2⟩⟩
  refine ⟨v12, rfl, h12, ?_⟩
  subst hv12
  have hes2 := h11.size
  refine ER.nil (fun w13 h13 => ?_)
  refine AQ.then ?_
  refine EC.block ?_
  have hw1 := ((((((((((((h1.trans h2).trans h3).trans h4).trans h5).trans h6).trans h7).trans h8).trans h9).trans h10).trans h11).trans h12).trans h13)
  have k50 := (r9.ext (((h10.trans h11).trans h12).trans h13))
  have hc1 := (hc112.ext h13)
  have hc2 := (hc212.ext h13)
  have hl5 := k50.lt
  have k40 := (r2.ext ((((((((((h3.trans h4).trans h5).trans h6).trans h7).trans h8).trans h9).trans h10).trans h11).trans h12).trans h13))
  have k60 := (r4.ext ((((((((h5.trans h6).trans h7).trans h8).trans h9).trans h10).trans h11).trans h12).trans h13))
  have k70 := (r6.ext ((((((h7.trans h8).trans h9).trans h10).trans h11).trans h12).trans h13))
  refine EC.range (xs := (((scopeL ms m).map fun y => [Value.int .i64 y]))) (mem := (fun b => b < w.heap.size ∨ b = c1 ∨ b = c2)) rfl fok28 rfl (fun x hx => by obtain ⟨y, _, rfl⟩ := List.mem_map.1 hx; rfl)
    (fun j S1 W => ∃ ov, S1 = (fun b => b = w8.heap.size ∨ ov.ownBlock = some b) ∧ Ext w W ∧ Row W w8.heap.size 31 [ov] ∧ OwnQ W (w8.heap.size + 1) 36 2 ov (((scopeL ms m).take j).map (fun k => (k, whyX (moAt ms k) name want))).length (((((scopeL ms m).take j).map (fun k => (k, whyX (moAt ms k) name want))).map refC).flatten) ∧ ∀ i (h : i < (scopeL ms m).length), i < j → isHit ms name want (scopeL ms m)[i] = false)
    (fun c S1 W => c = .exit 0 ∧ ∃ ov, S1 = (fun b => b = w8.heap.size ∨ ov.ownBlock = some b) ∧ Ext w W ∧ Row W w8.heap.size 31 [ov] ∧ OwnQ W (w8.heap.size + 1) 36 2 ov (whyL ms (scopeL ms m) name want).length (((whyL ms (scopeL ms m) name want).map refC).flatten))
    (fun j S1 W W' h m => by
        obtain ⟨ov, rfl, hx, h5, ho, hno⟩ := h
        exact ⟨ov, rfl, hx.modify m (fun k hk => Nat.le_trans hw1.size hk.1), m.row h5 (fun hb => hb.2 (.inl rfl)), ho.mod m (fun k hk hb => hb.2 (.inr hk)), hno⟩) (fun c S1 W W' h m => by
        obtain ⟨hc, ov, rfl, hx, h5, ho⟩ := h
        exact ⟨hc, ov, rfl, hx.modify m (fun k hk => Nat.le_trans hw1.size hk.1), m.row h5 (fun hb => hb.2 (.inl rfl)), ho.mod m (fun k hk hb => hb.2 (.inr hk))⟩) (fun j S1 W h b hb => by
        obtain ⟨ov, rfl, hx, h5, ho, hno⟩ := h
        rcases hb with rfl | hb
        · exact h5.lt
        · exact (ho.lt b hb).2)
    (fun W1 hW => scope_seq ms _ m w c1 c2 W1 (hw1.trans hW) hms (hc1.ext hW) (hc2.ext hW) hm8) (fun b => b = w8.heap.size ∨ Value.ownBlock (.slice none 0 0) = some b) (fun b hb => by
        rcases hb with h | rfl | rfl
        · exact ⟨fun hs => hs.elim (fun e => by omega) (fun e => by cases e), Nat.lt_of_lt_of_le h hw1.size⟩
        · exact ⟨fun hs => hs.elim (fun e => by omega) (fun e => by cases e), hc1.lt⟩
        · exact ⟨fun hs => hs.elim (fun e => by omega) (fun e => by cases e), hc2.lt⟩) (⟨_, rfl, hw1, k50, OwnQ.of_own (World.ownsRow_nil _ _ _ _), fun i _ h => absurd h (Nat.not_lt_zero i)⟩) (fun j => [(4, ptr w1.heap.size), (6, ptr w3.heap.size), (7, ptr w5.heap.size), (9, ptr w8.heap.size), (10, .int .i64 ((scopeL ms m).getD j 0))]) ?_ ?_ ?_ ?_
  · intro lr kr wr hkr
    have hE := Ext.refl wr
    rw [map_get]
    -- region 3  bind.go:129
    refine EC.region (fun i => [1].getD i 0) [0] rfl ?_
    refine ER.sil rfl rfl rfl rfl (Sil.assign rfl) ?_  -- 3.0: t10 := assign
    refine ER.nil (fun w14 h14 => ?_)
    exact AQ.assigned [4, 6, 7, 9, 10] rfl (hE.trans h14)
  · intro lr kr Sr wr hkr hI hM
    have hE := Ext.refl wr
    obtain ⟨ov, rfl, hx, k5, ho, hno⟩ := hI
    have hkr2 : kr < (scopeL ms m).length := by simpa using hkr
    have hcg : (scopeL ms m).getD kr 0 = (scopeL ms m)[kr] := by simp [hkr2]
    have hin : InR ms ((scopeL ms m).getD kr 0) := by rw [hcg]; exact scopeL_in _ (List.getElem_mem hkr2)
    obtain ⟨ics, hicl, hiat, himc, hione⟩ := hms.image hin
    have k4 := hM.row k40 (fun hs => hs.elim (fun e => by omega) (fun e => by cases e))
    have k6 := hM.row k60 (fun hs => hs.elim (fun e => by omega) (fun e => by cases e))
    have k7 := hM.row k70 (fun hs => hs.elim (fun e => by omega) (fun e => by cases e))
    refine EC.block ?_
    refine EC.seq ?_
    -- region 4  bind.go:130
    refine EC.draw (fun i => [0, 1, 1, 1, 0, 0, 0, 0, 1, 1, 1, 1, 1, 1, 1].getD i 0) [0, 1, 2, 3, 4, 5, 6, 7, 8, 9, 10, 11, 12, 13, 14] (by kernel_rfl) (by kernel_rfl) ?_
    refine ER.ex rfl rfl rfl rfl (Exa.load flat22 rfl (k4.cell rfl)) ?_  -- 4.0: t19 := load
    refine ER.sil rfl rfl rfl rfl (Sil.move rfl) ?_  -- 4.1: t20 := move
    refine ER.sil rfl rfl rfl rfl (Sil.indexR Try.underlying22 inf56 rfl rfl (Mods.isE hms (by have := hin.1; have := hin.2; omega)) (hin.1) (hin.2)) ?_  -- 4.2: t21 := indexAddr
    refine ER.sil rfl rfl rfl rfl (Sil.fieldAddr Try.underlying56 rfl inf54 rfl) ?_  -- 4.3: t22 := fieldAddr
    refine ER.ex rfl rfl rfl rfl (Exa.loadAgg (vs := ics) (by rw [hicl]; exact agg54) rfl (hiat.ext (hx.trans hE))) ?_  -- 4.4: t23 := load
    refine ER.ex rfl rfl rfl rfl (Exa.load flat9 rfl (k6.cell rfl)) ?_  -- 4.5: t24 := load
    refine ER.ex rfl rfl rfl rfl (Exa.load flat9 rfl (k7.cell rfl)) ?_  -- 4.6: t25 := load
    have hx_ := hx
    refine ER.ex rfl rfl rfl rfl (Exa.call fok23 rfl rfl (fun wx hx => (offers_any ics (moAt ms ((scopeL ms m).getD kr 0)) name want wx (himc.ext ((hx_.trans hE).trans hx))))) ?_  -- 4.7: t26 := call
    refine ER.sil rfl rfl rfl rfl (Sil.move rfl) ?_  -- 4.8: t18 := move
    refine ER.sil rfl rfl rfl rfl (Sil.extract rfl rfl) ?_  -- 4.9: t27 := extract
    refine ER.sil rfl rfl rfl rfl (Sil.extract rfl rfl) ?_  -- 4.10: t28 := extract
    refine ER.sil rfl rfl rfl rfl (Sil.extract rfl rfl) ?_  -- 4.11: t29 := extract
    refine ER.sil rfl rfl rfl rfl (Sil.assign rfl) ?_  -- 4.12: t11 := assign
    refine ER.sil rfl rfl rfl rfl (Sil.assign rfl) ?_  -- 4.13: t12 := assign
    refine ER.sil rfl rfl rfl rfl (Sil.assign rfl) ?_  -- 4.14: t13 := assign
    refine ER.nil (fun w15 h15 => ?_)
    refine AQ.then ?_
    refine EC.seq ?_
    refine EC.seq ?_
    -- region 5  bind.go:131
    refine EC.region (fun i => [1].getD i 0) [0] rfl ?_
    refine ER.sil rfl rfl rfl rfl (Sil.move rfl) ?_  -- 5.0: t30 := move
    refine ER.nil (fun w16 h16 => ?_)
    refine AQ.then ?_
    refine EC.cond rfl (fun hb0 => ?_) (fun hb0 => ?_)  -- cond 0: t30
    ·
      refine EC.exit ?_
      refine AQ.thenExit ?_
      refine AQ.blockPass rfl ?_
      exact AQ.rqE (fun b => b = w8.heap.size ∨ ov.ownBlock = some b) (((hE.trans h15).trans h16).mod _) (fun b _ h => h) ⟨rfl, ov, rfl, hx.trans ((hE.trans h15).trans h16), k5.ext ((hE.trans h15).trans h16), by rw [(f_hit hkr2 hb0 hno).2.2.2]; exact ho.ext ((hE.trans h15).trans h16)⟩
    ·
      have hwy : oWhy (moAt ms ((scopeL ms m).getD kr 0)) name want = whyX (moAt ms ((scopeL ms m).getD kr 0)) name want := by rw [oWhy, if_neg (by rw [hb0]; exact Bool.false_ne_true)]
      rw [hwy]
      refine EC.skip ?_
      refine AQ.then ?_
      -- region 6  bind.go:134
      refine EC.region (fun i => [0, 1, 1, 1, 2, 3, 3].getD i 0) [0, 1, 2, 3, 4, 5, 6] rfl ?_
      refine ER.ex rfl rfl rfl rfl (Exa.load flat31 rfl ((k5.ext (h15.trans h16)).cell rfl)) ?_  -- 6.0: t31 := load
      refine ER.sil rfl rfl rfl rfl (Sil.move rfl) ?_  -- 6.1: t32 := move
      refine ER.sil rfl rfl rfl rfl (Sil.move rfl) ?_  -- 6.2: t33 := move
      refine ER.sil rfl rfl rfl rfl (Sil.build rfl rfl) ?_  -- 6.3: t34 := build
      refine ER.st rfl rfl rfl rfl (fun w17 h17 => Stp.buildAll [_] Try.underlying31 inf36 rfl rfl rfl rfl rfl rfl (fun w18 h18 s18 r18 => ⟨h18, ?_⟩))  -- 6.4: t35 := buildSlice
      --  -- 6.5: t36 := call
      refine ER.bar rfl rfl rfl rfl (fun w19 h19 => ?_)
      have hoa := ho.ext (((((hE.trans h15).trans h16).trans h17).trans h18).trans h19)
      have hsa := (((((hE.trans h15).trans h16).trans h17).trans h18).trans h19).size
      have hxa := hx.trans (((((hE.trans h15).trans h16).trans h17).trans h18).trans h19)
      refine Stp.appendQ Try.underlying31 inf36 rfl rfl rfl hoa (Nat.le_trans (Nat.succ_le_of_lt k5.lt) hsa) (Reads.of_row (r18.ext h19) rfl (by decide)) (by intro q hq; simp [catCells, Value.cells] at hq; rcases hq with rfl | rfl <;> rfl) (by simp only [List.length_map, List.length_take]; omega) (by unfold maxLen; simp only [List.length_map, List.length_take]; omega) (fun vq w20 ob g20 nb => ?_)
      obtain ⟨qa, qc, rfl, _⟩ := ob.reads.isS
      have hMb := ((((((hE.trans h15).trans h16).trans h17).trans h18).trans h19).mod (fun b => b = w8.heap.size ∨ ov.ownBlock = some b)).trans (Mod.of_grown g20 (fun k hk => .inr hk))
      have hob := fun b (hb : b < wr.heap.size) (hs : b = w8.heap.size ∨ Value.ownBlock (.slice qa _ qc) = some b) => hs.imp (fun h => h) (fun hs => (nb b hs).elim (fun h => h) (fun hge => absurd hb (by omega)))
      have hxb := hxa.grown g20 (fun k hk => Nat.le_trans hB5 (Nat.le_of_succ_le (hoa.lt k hk).1))
      have k5b := (k5.ext (((((hE.trans h15).trans h16).trans h17).trans h18).trans h19)).grown g20 (fun e => by have := (hoa.lt _ e.symm).1; omega)
      --  -- 6.6: tNone := store
      refine ER.bar rfl rfl rfl rfl (fun w21 h21 => Stp.store (by kernel_rfl) rfl rfl (k5b.ext ((Ext.refl _).trans h21)) rfl rfl (fun w22 u22 r5 => ?_))
      have hMc := (hMb.trans (((Ext.refl _).trans h21).mod _)).trans (u22.mod (S := fun b => b = w8.heap.size ∨ ov.ownBlock = some b) (.inl rfl))
      have hxc := (hxb.trans ((Ext.refl _).trans h21)).upd u22 hB5
      have hoc := (ob.ext ((Ext.refl _).trans h21)).upd u22 (fun k hk => by have := (ob.lt k hk).1; omega)
      refine ER.nil (fun w23 h23 => ?_)
      refine AQ.blockNormal ?_
      refine AQ.rqN (fun b => b = w8.heap.size ∨ _) (hMc.trans (h23.mod _)) hob ⟨_, rfl, hxc.trans h23, r5.ext h23, ?_, noHit_next hkr2 hb0 hno⟩
      rw [List.take_succ_eq_append_getElem hkr2, ← hcg, List.map_append, List.length_append, List.map_append, List.flatten_append]
      exact hoc.ext h23
  · intro D Sr wr hD hM hold hnD hDr hI
    have hE := Ext.refl wr
    obtain ⟨ov, rfl, hx, k5, ho, hno⟩ := hI
    have hll : ((scopeL ms m).map fun y => [Value.int .i64 y]).length = (scopeL ms m).length := List.length_map _
    rw [hll] at hno ho
    rw [List.take_length, ← (f_miss fun j h => hno j h h).2.2.2] at ho
    refine AQ.blockNormal ?_
    refine AQ.then ?_
    refine EC.seq ?_
    -- region 7  bind.go:136
    refine EC.region (fun i => [0, 1].getD i 0) [0, 1] rfl ?_
    refine ER.ex rfl rfl rfl rfl (Exa.load flat31 rfl (k5.cell rfl)) ?_  -- 7.0: t37 := load
    refine ER.sil rfl rfl rfl rfl (Sil.assign rfl) ?_  -- 7.1: t8 := assign
    refine ER.nil (fun w24 h24 => ?_)
    refine AQ.then ?_
    refine EC.ret ?_
    obtain ⟨va, vc, rfl, _⟩ := ho.reads.isS
    exact AQ.outM (.inr rfl) [D] (res1 Try.results17 rfl) (by simp) (by simpa using Ext.obj (hE.trans h24) hDr) (fun w' hm => ⟨_, rfl, (hx.trans (hE.trans h24)).modify hm (fun k hk => by rw [List.mem_singleton] at hk; subst hk; exact Nat.le_trans hw1.size hD), Refs.of_own ((ho.ext (hE.trans h24)).mod hm (fun k hk hb => by rw [List.mem_singleton] at hb; subst hb; exact hnD (.inr hk)))⟩)
  · intro D c Sr wr hD hM hold hnD hDr hX
    have hE := Ext.refl wr
    obtain ⟨rfl, ov, rfl, hx, k5, ho⟩ := hX
    refine EC.exit ?_
    refine AQ.blockHit ?_
    refine AQ.then ?_
    refine EC.seq ?_
    -- region 7  bind.go:136
    refine EC.region (fun i => [0, 1].getD i 0) [0, 1] rfl ?_
    refine ER.ex rfl rfl rfl rfl (Exa.load flat31 rfl (k5.cell rfl)) ?_  -- 7.0: t37 := load
    refine ER.sil rfl rfl rfl rfl (Sil.assign rfl) ?_  -- 7.1: t8 := assign
    refine ER.nil (fun w25 h25 => ?_)
    refine AQ.then ?_
    refine EC.ret ?_
    obtain ⟨va, vc, rfl, _⟩ := ho.reads.isS
    exact AQ.outM (.inr rfl) [D] (res1 Try.results17 rfl) (by simp) (by simpa using Ext.obj (hE.trans h25) hDr) (fun w' hm => ⟨_, rfl, (hx.trans (hE.trans h25)).modify hm (fun k hk => by rw [List.mem_singleton] at hk; subst hk; exact Nat.le_trans hw1.size hD), Refs.of_own ((ho.ext (hE.trans h25)).mod hm (fun k hk hb => by rw [List.mem_singleton] at hb; subst hb; exact hnD (.inr hk)))⟩)

end Go.Proofs.Ytgagjmapjdeknaa
