/- Bind: the law Later, walked. -/
import Derived.Test.YtgagjmapjdeknaaW23
import Derived.Test.YtgagjmapjdeknaaBase3
namespace Go.Proofs.Ytgagjmapjdeknaa
open Go.RowKit Go.XK Go.BindLaw

-- linchpin/linchpinlaw31.BindLater: parameters ['[]api.Module', 'api.Module', 'int', 'string', 'string'] (free 0), results [('ResultVar.tmp', 10)], 118 slots
set_option maxRecDepth 100000 in
theorem later_any (ms : List Mo) (v : Value) (y : Mo) (ycs : List Value) (m : Int) (name want : ByteArray) (w : World) (hms : Mods w v ms) (hyc : MoC w ycs y) (hbig : ms.length * 568 ≤ 140737488351232) :
    Calls Try.prog 6 [v, .agg ycs.toArray, .int .i64 m, .string name, .string want].toArray w fun e w' => e = .returned (.bool true) ∧ Ext w w' := by
  have hm := hms.max
  have hyl := hyc.1
  obtain ⟨css, ⟨hrd, hK⟩, hcl, hq⟩ := id hms
  refine calls_of Try.func6 rfl Try.ntmps6 rfl ?_
  refine EC.seq ?_
  -- region 0  law.go:167
  refine EC.region (fun i => [2, 1].getD i 0) [0, 1] rfl ?_
  refine ER.st rfl rfl rfl rfl (fun w1 h1 => Stp.box rfl (fun w2 h2 s2 r2 => ⟨h2, ?_⟩))  -- 0.0: t6 := box
  have n0 := h1.size
  refine ER.sil rfl rfl rfl rfl (Sil.assign rfl) ?_  -- 0.1: t10 := assign
  refine ER.nil (fun w3 h3 => ?_)
  refine AQ.then ?_
  refine EC.seq ?_
  -- region 1  law.go:168
  refine EC.region (fun i => [0, 1].getD i 0) [0, 1] rfl ?_
  refine ER.ex rfl rfl rfl rfl (Exa.call fok8 rfl rfl (fun wx hx => (small_any wx))) ?_  -- 1.0: t21 := call
  refine ER.sil rfl rfl rfl rfl (Sil.assign rfl) ?_  -- 1.1: t11 := assign
  refine ER.nil (fun w4 h4 => ?_)
  refine AQ.then ?_
  refine EC.seq ?_
  -- region 2  law.go:169
  refine EC.region (fun i => [1, 1, 1].getD i 0) [0, 1, 2] rfl ?_
  refine ER.sil rfl rfl rfl rfl (Sil.move rfl) ?_  -- 2.0: t22 := move
  refine ER.sil rfl rfl rfl rfl (Sil.lenR Try.underlying22 rfl (Mods.isS hms)) ?_  -- 2.1: t23 := call
  refine ER.sil rfl rfl rfl rfl (Sil.assign rfl) ?_  -- 2.2: t12 := assign
  refine ER.nil (fun w5 h5 => ?_)
  refine AQ.then ?_
  refine EC.join (σ := CloV) (fun q => [(0, v), (2, .int .i64 m), (3, .string name), (4, .string want), (6, ptr w1.heap.size), (11, .bool true), (12, .int .i64 (ms.length : Int)), (13, q.v)]) (fun q wj => Ext w wj ∧ Row wj w1.heap.size 56 ycs ∧ Mods wj q.v (ms ++ [y])) ?_ (fun q wj hF => ?_)
  ·
    -- region 3  law.go:170
    refine EC.drawA (fun i => [2, 1, 2, 0, 2, 3, 1].getD i 0) (by kernel_rfl) 7 rfl ?_
    refine EA.take 1 (by kernel_rfl) ?_
    intro c6
    refine EX.sil rfl rfl rfl rfl (Sil.move rfl) ?_  -- 3.1: t25 := move
    refine EA.back c6 ?_
    refine EA.take 3 (by kernel_rfl) ?_
    intro c7
    refine EX.ex rfl rfl rfl rfl (Exa.loadAgg (vs := ycs) (by rw [hyl]; exact agg56) rfl (((r2.ext ((h3.trans h4).trans h5))).at)) ?_  -- 3.3: t27 := load
    refine EA.back c7 ?_
    refine EA.two 0 4 (by kernel_rfl) ?_ ?_
    ·
      intro c8
      have hp6 := (r2.ext ((h3.trans h4).trans h5)).lt
      refine EX.st rfl rfl rfl rfl (fun w9 h9 => Stp.buildNil Try.underlying22 inf56 (fun w10 h10 s10 r10 => ⟨h10, ?_⟩))  -- 3.0: t24 := buildSlice
      have z10 := h9.size
      have hq6 := Nat.le_trans hp6 h9.size
      refine EA.back c8 ?_
      refine EA.two 2 4 (by kernel_rfl) ?_ ?_
      ·
        intro c11
        refine EX.st rfl rfl rfl rfl (fun w12 h12 => ?_)  -- 3.2: t26 := call
        refine Stp.appendNew Try.underlying22 inf56 rfl rfl rfl (r10.ext h12) (hq6) (hrd.ext (((((((h1.trans h2).trans h3).trans h4).trans h5).trans h9).trans h10).trans h12)) (by rw [hcl]; omega) (by rw [hcl]; exact hm) (fun v13 w13 h13 o13 => ⟨h13, ?_⟩)
        refine EA.back c11 ?_
        refine EA.only 4 (by kernel_rfl) ?_
        intro c14
        refine EX.st rfl rfl rfl rfl (fun w15 h15 => Stp.buildAll [_] Try.underlying22 inf56 rfl rfl rfl rfl rfl (by simp [Value.cells, hyl]) (fun w16 h16 s16 r16 => ⟨h16, ?_⟩))  -- 3.4: t28 := buildSlice
        have z16 := h15.size
        refine EA.back c14 ?_
        refine EA.only 5 (by kernel_rfl) ?_
        intro c17
        refine EX.bar rfl rfl rfl rfl (fun w18 h18 => ?_)  -- 3.5: t29 := call
        have o18 := (Ext.own o13 ((h15.trans h16).trans h18))
        refine Stp.append Try.underlying22 inf56 rfl (by decide) rfl rfl o18 ((r2.ext (((((((((h3.trans h4).trans h5).trans h9).trans h10).trans h12).trans h13).trans h15).trans h16).trans h18)).lt) (Reads.of_row (n := 1) (r16.ext h18) (by simp [catCells, Value.cells, hyl]) (by decide)) (by intro u hu; exact hyc.one u (by simpa [catCells, Value.cells] using hu)) (by rw [hcl]; omega) (by rw [hcl]; unfold maxLen; omega) (fun v19 w19 o19 g19 n19 => ?_)
        have e19 := (((((((((((h1.trans h2).trans h3).trans h4).trans h5).trans h9).trans h10).trans h12).trans h13).trans h15).trans h16).trans h18).grown g19 (fun k hk => Nat.le_trans (Nat.le_succ_of_le h1.size) (o18.lt k hk).1)
        have x19_6 := (r2.ext (((((((((h3.trans h4).trans h5).trans h9).trans h10).trans h12).trans h13).trans h15).trans h16).trans h18)).grown g19 (own_ne o18 (Nat.lt_succ_self _))
        refine EA.back c17 ?_
        refine EA.take 6 (by kernel_rfl) ?_
        intro c20
        refine EX.sil rfl rfl rfl rfl (Sil.assign rfl) ?_  -- 3.6: t13 := assign
        refine EA.back c20 ?_
        refine EA.nil (by kernel_rfl) (fun w21 h21 => ?_)
        exact AQ.join ⟨0, _⟩ [0, 2, 3, 4, 6, 11, 12, 13] rfl ⟨(e19.trans h21), (x19_6.ext h21), Mods.snoc (ycs := ycs) (e19.trans h21) (by have := (Ext.own o19 h21); simpa [catCells, Value.cells] using this) hK hyl hcl hq hyc⟩
      ·
        intro c22
        refine EX.st rfl rfl rfl rfl (fun w23 h23 => Stp.buildAll [_] Try.underlying22 inf56 rfl rfl rfl rfl rfl (by simp [Value.cells, hyl]) (fun w24 h24 s24 r24 => ⟨h24, ?_⟩))  -- 3.4: t28 := buildSlice
        have z24 := h23.size
        refine EA.back c22 ?_
        refine EA.only 2 (by kernel_rfl) ?_
        intro c25
        refine EX.st rfl rfl rfl rfl (fun w26 h26 => ?_)  -- 3.2: t26 := call
        refine Stp.appendNew Try.underlying22 inf56 rfl rfl rfl (r10.ext ((h23.trans h24).trans h26)) (hq6) (hrd.ext (((((((((h1.trans h2).trans h3).trans h4).trans h5).trans h9).trans h10).trans h23).trans h24).trans h26)) (by rw [hcl]; omega) (by rw [hcl]; exact hm) (fun v27 w27 h27 o27 => ⟨h27, ?_⟩)
        refine EA.back c25 ?_
        refine EA.only 5 (by kernel_rfl) ?_
        intro c28
        refine EX.bar rfl rfl rfl rfl (fun w29 h29 => ?_)  -- 3.5: t29 := call
        have o29 := (Ext.own o27 h29)
        refine Stp.append Try.underlying22 inf56 rfl (by decide) rfl rfl o29 ((r2.ext (((((((((h3.trans h4).trans h5).trans h9).trans h10).trans h23).trans h24).trans h26).trans h27).trans h29)).lt) (Reads.of_row (n := 1) (r24.ext ((h26.trans h27).trans h29)) (by simp [catCells, Value.cells, hyl]) (by decide)) (by intro u hu; exact hyc.one u (by simpa [catCells, Value.cells] using hu)) (by rw [hcl]; omega) (by rw [hcl]; unfold maxLen; omega) (fun v30 w30 o30 g30 n30 => ?_)
        have e30 := (((((((((((h1.trans h2).trans h3).trans h4).trans h5).trans h9).trans h10).trans h23).trans h24).trans h26).trans h27).trans h29).grown g30 (fun k hk => Nat.le_trans (Nat.le_succ_of_le h1.size) (o29.lt k hk).1)
        have x30_6 := (r2.ext (((((((((h3.trans h4).trans h5).trans h9).trans h10).trans h23).trans h24).trans h26).trans h27).trans h29)).grown g30 (own_ne o29 (Nat.lt_succ_self _))
        refine EA.back c28 ?_
        refine EA.take 6 (by kernel_rfl) ?_
        intro c31
        refine EX.sil rfl rfl rfl rfl (Sil.assign rfl) ?_  -- 3.6: t13 := assign
        refine EA.back c31 ?_
        refine EA.nil (by kernel_rfl) (fun w32 h32 => ?_)
        exact AQ.join ⟨0, _⟩ [0, 2, 3, 4, 6, 11, 12, 13] rfl ⟨(e30.trans h32), (x30_6.ext h32), Mods.snoc (ycs := ycs) (e30.trans h32) (by have := (Ext.own o30 h32); simpa [catCells, Value.cells] using this) hK hyl hcl hq hyc⟩
    ·
      intro c33
      refine EX.st rfl rfl rfl rfl (fun w34 h34 => Stp.buildAll [_] Try.underlying22 inf56 rfl rfl rfl rfl rfl (by simp [Value.cells, hyl]) (fun w35 h35 s35 r35 => ⟨h35, ?_⟩))  -- 3.4: t28 := buildSlice
      have z35 := h34.size
      refine EA.back c33 ?_
      refine EA.only 0 (by kernel_rfl) ?_
      intro c36
      have hp6 := (r2.ext ((((h3.trans h4).trans h5).trans h34).trans h35)).lt
      refine EX.st rfl rfl rfl rfl (fun w37 h37 => Stp.buildNil Try.underlying22 inf56 (fun w38 h38 s38 r38 => ⟨h38, ?_⟩))  -- 3.0: t24 := buildSlice
      have z38 := h37.size
      have hq6 := Nat.le_trans hp6 h37.size
      refine EA.back c36 ?_
      refine EA.only 2 (by kernel_rfl) ?_
      intro c39
      refine EX.st rfl rfl rfl rfl (fun w40 h40 => ?_)  -- 3.2: t26 := call
      refine Stp.appendNew Try.underlying22 inf56 rfl rfl rfl (r38.ext h40) (hq6) (hrd.ext (((((((((h1.trans h2).trans h3).trans h4).trans h5).trans h34).trans h35).trans h37).trans h38).trans h40)) (by rw [hcl]; omega) (by rw [hcl]; exact hm) (fun v41 w41 h41 o41 => ⟨h41, ?_⟩)
      refine EA.back c39 ?_
      refine EA.only 5 (by kernel_rfl) ?_
      intro c42
      refine EX.bar rfl rfl rfl rfl (fun w43 h43 => ?_)  -- 3.5: t29 := call
      have o43 := (Ext.own o41 h43)
      refine Stp.append Try.underlying22 inf56 rfl (by decide) rfl rfl o43 ((r2.ext (((((((((h3.trans h4).trans h5).trans h34).trans h35).trans h37).trans h38).trans h40).trans h41).trans h43)).lt) (Reads.of_row (n := 1) (r35.ext ((((h37.trans h38).trans h40).trans h41).trans h43)) (by simp [catCells, Value.cells, hyl]) (by decide)) (by intro u hu; exact hyc.one u (by simpa [catCells, Value.cells] using hu)) (by rw [hcl]; omega) (by rw [hcl]; unfold maxLen; omega) (fun v44 w44 o44 g44 n44 => ?_)
      have e44 := (((((((((((h1.trans h2).trans h3).trans h4).trans h5).trans h34).trans h35).trans h37).trans h38).trans h40).trans h41).trans h43).grown g44 (fun k hk => Nat.le_trans (Nat.le_succ_of_le h1.size) (o43.lt k hk).1)
      have x44_6 := (r2.ext (((((((((h3.trans h4).trans h5).trans h34).trans h35).trans h37).trans h38).trans h40).trans h41).trans h43)).grown g44 (own_ne o43 (Nat.lt_succ_self _))
      refine EA.back c42 ?_
      refine EA.take 6 (by kernel_rfl) ?_
      intro c45
      refine EX.sil rfl rfl rfl rfl (Sil.assign rfl) ?_  -- 3.6: t13 := assign
      refine EA.back c45 ?_
      refine EA.nil (by kernel_rfl) (fun w46 h46 => ?_)
      exact AQ.join ⟨0, _⟩ [0, 2, 3, 4, 6, 11, 12, 13] rfl ⟨(e44.trans h46), (x44_6.ext h46), Mods.snoc (ycs := ycs) (e44.trans h46) (by have := (Ext.own o44 h46); simpa [catCells, Value.cells] using this) hK hyl hcl hq hyc⟩
  obtain ⟨hwj, q6, hall⟩ := hF
  refine EC.seq ?_
  refine EC.seq ?_
  -- region 4  law.go:171
  refine EC.region (fun i => [1, 0, 1, 1, 1, 1, 1, 1, 1, 1, 1, 1, 1, 1, 0, 1, 1, 1, 0, 1, 1, 1].getD i 0) [0, 1, 2, 3, 4, 5, 6, 7, 8, 9, 10, 11, 12, 13, 14, 15, 16, 17, 18, 19, 20, 21] rfl ?_
  refine ER.sil rfl rfl rfl rfl (Sil.move rfl) ?_  -- 4.0: t30 := move
  refine ER.ex rfl rfl rfl rfl (Exa.call fok9 rfl rfl (fun wx hx => (few_any (ms ++ [y]) q.v wx (hall.ext ((Ext.refl _).trans hx))))) ?_  -- 4.1: t31 := call
  refine ER.sil rfl rfl rfl rfl (Sil.not rfl) ?_  -- 4.2: t32 := unOp
  refine ER.sil rfl rfl rfl rfl (Sil.move rfl) ?_  -- 4.3: t33 := move
  refine ER.silG rfl rfl rfl rfl rfl rfl (fun hc => Sil.move rfl) ?_  -- 4.4: t34 := move
  refine ER.silG rfl rfl rfl rfl rfl rfl (fun hc => Sil.lss (congrArg some (sel_eq hc _)) rfl) ?_  -- 4.5: t35 := binOp
  refine ER.sil rfl rfl rfl rfl (Sil.pickOr rfl rfl rfl) ?_  -- 4.6: t36 := pick
  refine ER.sil rfl rfl rfl rfl (Sil.move rfl) ?_  -- 4.7: t37 := move
  refine ER.silG rfl rfl rfl rfl rfl rfl (fun hc => Sil.move rfl) ?_  -- 4.8: t38 := move
  refine ER.silG rfl rfl rfl rfl rfl rfl (fun hc => Sil.move rfl) ?_  -- 4.9: t39 := move
  refine ER.silG rfl rfl rfl rfl rfl rfl (fun hc => Sil.geq (congrArg some (sel_eq hc _)) (congrArg some (sel_eq hc _))) ?_  -- 4.10: t40 := binOp
  refine ER.sil rfl rfl rfl rfl (Sil.pickOr rfl rfl rfl) ?_  -- 4.11: t41 := pick
  refine ER.sil rfl rfl rfl rfl (Sil.move rfl) ?_  -- 4.12: t42 := move
  refine ER.silG rfl rfl rfl rfl rfl rfl (fun hc => Sil.fieldAddr Try.underlying56 rfl inf3 rfl) ?_  -- 4.13: t43 := fieldAddr
  refine ER.exG rfl rfl rfl rfl rfl rfl (fun hc => Exa.load flat3 (congrArg some (sel_eq hc _)) ((q6).cell hyc.rootC)) ?_  -- 4.14: t44 := load
  refine ER.silG rfl rfl rfl rfl rfl rfl (fun hc => Sil.eql (congrArg some (sel_eq hc _)) rfl) ?_  -- 4.15: t45 := binOp
  refine ER.silG rfl rfl rfl rfl rfl rfl (fun hc => Sil.move (congrArg some (sel_eq hc _))) ?_  -- 4.16: t46 := move
  refine ER.silGG rfl rfl rfl rfl rfl rfl (fun hp hc => Sil.fieldAddr Try.underlying56 rfl inf3 rfl) ?_  -- 4.17: t47 := fieldAddr
  refine ER.exGG rfl rfl rfl rfl rfl rfl (fun hp hc => Exa.load flat3 (congrArg some (sel_2 hp hc _)) ((q6).cell hyc.spaceC)) ?_  -- 4.18: t48 := load
  refine ER.silGG rfl rfl rfl rfl rfl rfl (fun hp hc => Sil.eql (congrArg some (sel_2 hp hc _)) rfl) ?_  -- 4.19: t49 := binOp
  refine ER.silG rfl rfl rfl rfl rfl rfl (fun hc => Sil.pickAnd (congrArg some (sel_eq hc _)) (congrArg some (sel_in hc _ _)) rfl) ?_  -- 4.20: t50 := pick
  refine ER.sil rfl rfl rfl rfl (Sil.pickOr rfl rfl rfl) ?_  -- 4.21: t51 := pick
  refine ER.nil (fun w47 h47 => ?_)
  refine AQ.then ?_
  refine EC.cond rfl (fun hb0 => ?_) (fun hb0 => ?_)  -- cond 0: t51
  ·
    refine EC.seq ?_
    -- region 5  law.go:172
    refine EC.region (fun i => [1, 1].getD i 0) [0, 1] rfl ?_
    refine ER.sil rfl rfl rfl rfl (Sil.move rfl) ?_  -- 5.0: t52 := move
    refine ER.sil rfl rfl rfl rfl (Sil.assign rfl) ?_  -- 5.1: t10 := assign
    refine ER.nil (fun w48 h48 => ?_)
    refine AQ.then ?_
    refine EC.ret ?_
    refine AQ.thenRet ?_
    refine AQ.ret1 Try.results6 rfl ?_
    exact ⟨rfl, hwj.trans (h47.trans h48)⟩
  ·
    simp only [Bool.or_eq_false_iff, Bool.not_eq_false', decide_eq_false_iff_not] at hb0
    have hfew : fewB (ms ++ [y]) = true := hb0.1.1.1
    have hk : InR ms m := by unfold InR; omega
    have hym : isMain y = false := by unfold isMain; rw [Bool.and_comm]; exact hb0.2
    have h1000 : ms.length ≤ 1000 := by have := few_len hfew; simp at this; omega
    refine EC.skip ?_
    refine AQ.then ?_
    refine EC.seq ?_
    refine EC.seq ?_
    -- region 6  law.go:174
    refine EC.region (fun i => [1].getD i 0) [0] rfl ?_
    refine ER.sil rfl rfl rfl rfl (Sil.assign rfl) ?_  -- 6.0: t14 := assign
    refine ER.nil (fun w49 h49 => ?_)
    refine AQ.then ?_
    refine EC.block ?_
    refine EC.loop (σ := Nat) (fun i => [(0, v), (2, .int .i64 m), (3, .string name), (4, .string want), (11, .bool true), (12, .int .i64 (ms.length : Int)), (13, q.v), (14, .int .i64 (i : Int))]) (fun i wr => Ext wj wr ∧ i ≤ ms.length ∧ ∀ j (h : j < ms.length), j < i → ms[j].root ≠ (ms.length : Int) ∧ (ms.length : Int) ∉ ms[j].needs) (fun i => ms.length - i) 0 [0, 2, 3, 4, 11, 12, 13, 14] rfl ?_ (fun i wr hF => ?_)
    · exact ⟨(h47.trans h49), Nat.zero_le _, fun j _ h => absurd h (Nat.not_lt_zero j)⟩
    obtain ⟨hE, hi, hok⟩ := hF
    refine EC.seq ?_
    refine EC.seq ?_
    -- region 7  law.go:174
    refine EC.region (fun i => [1, 1, 1].getD i 0) [0, 1, 2] rfl ?_
    refine ER.sil rfl rfl rfl rfl (Sil.move rfl) ?_  -- 7.0: t53 := move
    refine ER.sil rfl rfl rfl rfl (Sil.move rfl) ?_  -- 7.1: t54 := move
    refine ER.sil rfl rfl rfl rfl (Sil.lss rfl rfl) ?_  -- 7.2: t55 := binOp
    refine ER.nil (fun w50 h50 => ?_)
    refine AQ.then ?_
    refine EC.cond rfl (fun hb1 => ?_) (fun hb1 => ?_)  -- cond 1: t55
    ·
      have hlt : i < ms.length := by have := of_decide_eq_true hb1; omega
      obtain ⟨nv, hnv, hns⟩ := hms.needs (hms.inR hlt)
      have hmi := moAt_nat hlt
      refine EC.skip ?_
      refine AQ.then ?_
      refine EC.seq ?_
      refine EC.block ?_
      refine EC.seq ?_
      -- region 9  law.go:175
      refine EC.region (fun i => [1, 1, 1, 1, 0, 1, 1, 1, 1, 1, 1, 1, 0, 1, 0, 1].getD i 0) [0, 1, 2, 3, 4, 5, 6, 7, 8, 9, 10, 11, 12, 13, 14, 15] rfl ?_
      refine ER.sil rfl rfl rfl rfl (Sil.move rfl) ?_  -- 9.0: t58 := move
      refine ER.sil rfl rfl rfl rfl (Sil.move rfl) ?_  -- 9.1: t59 := move
      refine ER.sil rfl rfl rfl rfl (Sil.indexR Try.underlying22 inf56 rfl rfl (Mods.isE hms (by omega)) (by omega) (by omega)) ?_  -- 9.2: t60 := indexAddr
      refine ER.sil rfl rfl rfl rfl (Sil.fieldAddr Try.underlying56 rfl inf3 rfl) ?_  -- 9.3: t61 := fieldAddr
      refine ER.ex rfl rfl rfl rfl (Exa.load flat3 rfl (Mods.root (hms.ext (hwj.trans (hE.trans h50))) (hms.inR hlt))) ?_  -- 9.4: t62 := load
      refine ER.sil rfl rfl rfl rfl (Sil.move rfl) ?_  -- 9.5: t63 := move
      refine ER.sil rfl rfl rfl rfl (Sil.eql rfl rfl) ?_  -- 9.6: t64 := binOp
      refine ER.sil rfl rfl rfl rfl (Sil.move rfl) ?_  -- 9.7: t65 := move
      refine ER.silG rfl rfl rfl rfl rfl rfl (fun hc => Sil.move rfl) ?_  -- 9.8: t66 := move
      refine ER.silG rfl rfl rfl rfl rfl rfl (fun hc => Sil.move rfl) ?_  -- 9.9: t67 := move
      refine ER.silG rfl rfl rfl rfl rfl rfl (fun hc => Sil.indexR Try.underlying22 inf56 (congrArg some (sel_eq hc _)) (congrArg some (sel_eq hc _)) (Mods.isE hms (by omega)) (by omega) (by omega)) ?_  -- 9.10: t68 := indexAddr
      refine ER.silG rfl rfl rfl rfl rfl rfl (fun hc => Sil.fieldAddr Try.underlying56 rfl inf28 (congrArg some (sel_eq hc _))) ?_  -- 9.11: t69 := fieldAddr
      refine ER.exG rfl rfl rfl rfl rfl rfl (fun hc => Exa.load flat28 (congrArg some (sel_eq hc _)) (cell_ext (hwj.trans (hE.trans h50)) hnv)) ?_  -- 9.12: t70 := load
      refine ER.silG rfl rfl rfl rfl rfl rfl (fun hc => Sil.move rfl) ?_  -- 9.13: t71 := move
      refine ER.exG rfl rfl rfl rfl rfl rfl (fun hc => Exa.call fok19 rfl (evs_cons (congrArg some (sel_eq hc _)) (evs_cons (congrArg some (sel_eq hc _)) evs_nil)) (fun wx hx => (in_any _ _ (ms.length : Int) wx (hns.ext ((hwj.trans (hE.trans h50)).trans hx))))) ?_  -- 9.14: t72 := call
      refine ER.sil rfl rfl rfl rfl (Sil.pickOr rfl rfl rfl) ?_  -- 9.15: t73 := pick
      refine ER.nil (fun w51 h51 => ?_)
      refine AQ.then ?_
      refine EC.cond rfl (fun hb2 => ?_) (fun hb2 => ?_)  -- cond 2: t73
      ·
        refine EC.seq ?_
        -- region 10  law.go:176
        refine EC.region (fun i => [1, 1].getD i 0) [0, 1] rfl ?_
        refine ER.sil rfl rfl rfl rfl (Sil.move rfl) ?_  -- 10.0: t74 := move
        refine ER.sil rfl rfl rfl rfl (Sil.assign rfl) ?_  -- 10.1: t10 := assign
        refine ER.nil (fun w52 h52 => ?_)
        refine AQ.then ?_
        refine EC.ret ?_
        refine AQ.blockRet ?_
        refine AQ.thenRet ?_
        refine AQ.thenRet ?_
        refine AQ.blockRet ?_
        refine AQ.thenRet ?_
        refine AQ.ret1 Try.results6 rfl ?_
        exact ⟨rfl, hwj.trans (((hE.trans h50).trans h51).trans h52)⟩
      ·
        rw [Bool.or_eq_false_iff, hmi] at hb2
        unfold hasI at hb2
        refine EC.skip ?_
        refine AQ.blockNormal ?_
        refine AQ.then ?_
        -- region 8  law.go:174
        refine EC.region (fun i => [1, 1, 1].getD i 0) [0, 1, 2] rfl ?_
        refine ER.sil rfl rfl rfl rfl (Sil.move rfl) ?_  -- 8.0: t56 := move
        refine ER.sil rfl rfl rfl rfl (Sil.add rfl rfl) ?_  -- 8.1: t57 := binOp
        refine ER.sil rfl rfl rfl rfl (Sil.assign rfl) ?_  -- 8.2: t14 := assign
        refine ER.nil (fun w53 h53 => ?_)
        refine AQ.round (i + 1) [0, 2, 3, 4, 11, 12, 13, 14] (by rw [← wrap_succ hlt hm]; rfl) ⟨(((hE.trans h50).trans h51).trans h53), hlt, fun j h hj => ?_⟩ (by omega)
        rcases Nat.lt_or_eq_of_le (Nat.le_of_lt_succ hj) with hj | rfl
        · exact hok j h hj
        · exact ⟨by simpa using hb2.1, of_decide_eq_false hb2.2⟩
    ·
      have hno : noneTo ms := fun j h => hok j h (by have := of_decide_eq_false hb1; omega)
      refine EC.exit ?_
      refine AQ.thenExit ?_
      refine AQ.thenExit ?_
      refine AQ.blockHit ?_
      refine AQ.then ?_
      refine EC.seq ?_
      -- region 11  law.go:179
      refine EC.region (fun i => [1, 1, 1, 1, 0, 1, 1, 1, 1, 1, 1, 1].getD i 0) [0, 1, 2, 3, 4, 5, 6, 7, 8, 9, 10, 11] rfl ?_
      refine ER.sil rfl rfl rfl rfl (Sil.move rfl) ?_  -- 11.0: t76 := move
      refine ER.sil rfl rfl rfl rfl (Sil.move rfl) ?_  -- 11.1: t77 := move
      refine ER.sil rfl rfl rfl rfl (Sil.move rfl) ?_  -- 11.2: t78 := move
      refine ER.sil rfl rfl rfl rfl (Sil.move rfl) ?_  -- 11.3: t79 := move
      refine ER.ex rfl rfl rfl rfl (Exa.call fok10 rfl rfl (fun wx hx => (Find_any ms v m name want wx (hms.ext ((hwj.trans (hE.trans h50)).trans hx)) h1000))) ?_  -- 11.4: t80 := call
      refine ER.sil rfl rfl rfl rfl (Sil.move rfl) ?_  -- 11.5: t75 := move
      refine ER.sil rfl rfl rfl rfl (Sil.extract rfl rfl) ?_  -- 11.6: t81 := extract
      refine ER.sil rfl rfl rfl rfl (Sil.extract rfl rfl) ?_  -- 11.7: t82 := extract
      refine ER.sil rfl rfl rfl rfl (Sil.extract rfl rfl) ?_  -- 11.8: t83 := extract
      refine ER.sil rfl rfl rfl rfl (Sil.assign rfl) ?_  -- 11.9: t15 := assign
      refine ER.sil rfl rfl rfl rfl (Sil.assign rfl) ?_  -- 11.10: t16 := assign
      refine ER.sil rfl rfl rfl rfl (Sil.assign rfl) ?_  -- 11.11: t17 := assign
      refine ER.nil (fun w54 h54 => ?_)
      refine AQ.then ?_
      refine EC.seq ?_
      -- region 12  law.go:180
      refine EC.region (fun i => [1, 1, 1, 1, 0, 1, 1, 1, 1, 1, 1, 1].getD i 0) [0, 1, 2, 3, 4, 5, 6, 7, 8, 9, 10, 11] rfl ?_
      refine ER.sil rfl rfl rfl rfl (Sil.move rfl) ?_  -- 12.0: t85 := move
      refine ER.sil rfl rfl rfl rfl (Sil.move rfl) ?_  -- 12.1: t86 := move
      refine ER.sil rfl rfl rfl rfl (Sil.move rfl) ?_  -- 12.2: t87 := move
      refine ER.sil rfl rfl rfl rfl (Sil.move rfl) ?_  -- 12.3: t88 := move
      refine ER.ex rfl rfl rfl rfl (Exa.call fok10 rfl rfl (fun wx hx => (Find_any (ms ++ [y]) q.v m name want wx (hall.ext (((hE.trans h50).trans h54).trans hx)) (few_len hfew)))) ?_  -- 12.4: t89 := call
      rw [scope_snoc hno hym hk]
      rw [(find_snoc scopeL_in name want).1, (find_snoc scopeL_in name want).2.1, (find_snoc scopeL_in name want).2.2]
      refine ER.sil rfl rfl rfl rfl (Sil.move rfl) ?_  -- 12.5: t84 := move
      refine ER.sil rfl rfl rfl rfl (Sil.extract rfl rfl) ?_  -- 12.6: t90 := extract
      refine ER.sil rfl rfl rfl rfl (Sil.extract rfl rfl) ?_  -- 12.7: t91 := extract
      refine ER.sil rfl rfl rfl rfl (Sil.extract rfl rfl) ?_  -- 12.8: t92 := extract
      refine ER.sil rfl rfl rfl rfl (Sil.assign rfl) ?_  -- 12.9: t18 := assign
      refine ER.sil rfl rfl rfl rfl (Sil.assign rfl) ?_  -- 12.10: t19 := assign
      refine ER.sil rfl rfl rfl rfl (Sil.assign rfl) ?_  -- 12.11: t20 := assign
      refine ER.nil (fun w55 h55 => ?_)
      refine AQ.then ?_
      refine EC.seq ?_
      -- region 13  law.go:181
      refine EC.region (fun i => [1, 1, 1, 1, 1, 1, 1, 1, 1, 1, 1, 1, 1, 1, 1, 1, 1, 1, 1, 2, 1, 1, 2, 0, 1, 1].getD i 0) [0, 1, 2, 3, 4, 5, 6, 7, 8, 9, 10, 11, 12, 13, 14, 15, 16, 17, 18, 19, 20, 21, 22, 23, 24, 25] rfl ?_
      refine ER.sil rfl rfl rfl rfl (Sil.move rfl) ?_  -- 13.0: t93 := move
      refine ER.sil rfl rfl rfl rfl (Sil.move rfl) ?_  -- 13.1: t94 := move
      refine ER.silD rfl rfl rfl rfl (rfl) rfl rfl (Sil.move rfl) ?_  -- 13.2: t95 := move
      refine ER.silD rfl rfl rfl rfl (rfl) rfl rfl (Sil.move rfl) ?_  -- 13.3: t96 := move
      refine ER.silD rfl rfl rfl rfl (rfl) rfl rfl (Sil.eql rfl rfl) ?_  -- 13.4: t97 := binOp
      rw [beq_self_eq_true]
      refine ER.sil rfl rfl rfl rfl (Sil.pick rfl rfl rfl) ?_  -- 13.5: t98 := pick
      refine ER.sil rfl rfl rfl rfl (Sil.move rfl) ?_  -- 13.6: t99 := move
      refine ER.silD rfl rfl rfl rfl (rfl) rfl rfl (Sil.move rfl) ?_  -- 13.7: t100 := move
      refine ER.silD rfl rfl rfl rfl (rfl) rfl rfl (Sil.move rfl) ?_  -- 13.8: t101 := move
      refine ER.silD rfl rfl rfl rfl (rfl) rfl rfl (Sil.eql rfl rfl) ?_  -- 13.9: t102 := binOp
      rw [beq_self_eq_true]
      refine ER.sil rfl rfl rfl rfl (Sil.pick rfl rfl rfl) ?_  -- 13.10: t103 := pick
      refine ER.sil rfl rfl rfl rfl (Sil.move rfl) ?_  -- 13.11: t104 := move
      refine ER.silD rfl rfl rfl rfl (rfl) rfl rfl (Sil.move rfl) ?_  -- 13.12: t105 := move
      refine ER.silD rfl rfl rfl rfl (rfl) rfl rfl (Sil.move rfl) ?_  -- 13.13: t106 := move
      refine ER.silD rfl rfl rfl rfl (rfl) rfl rfl (Sil.beql Try.underlying4 rfl rfl) ?_  -- 13.14: t107 := binOp
      rw [beq_self_eq_true]
      refine ER.sil rfl rfl rfl rfl (Sil.pick rfl rfl rfl) ?_  -- 13.15: t108 := pick
      refine ER.sil rfl rfl rfl rfl (Sil.move rfl) ?_  -- 13.16: t109 := move
      refine ER.silD rfl rfl rfl rfl (rfl) rfl rfl (Sil.move rfl) ?_  -- 13.17: t110 := move
      refine ER.silD rfl rfl rfl rfl (rfl) rfl rfl (Sil.move rfl) ?_  -- 13.18: t111 := move
      refine ER.stG rfl rfl rfl rfl (rfl) rfl rfl (fun w56 h56 => Stp.call fok13 rfl rfl (Calls.mono ((Scope_any ms v m w56 (hms.ext ((hwj.trans (((hE.trans h50).trans h54).trans h55)).trans h56)) h1000)) ?_))  -- 13.19: t112 := call
      rintro _ w57 ⟨v57, rfl, h57, hi57⟩
      refine ⟨v57, rfl, h57, ?_⟩
      refine ER.silD rfl rfl rfl rfl (rfl) rfl rfl (Sil.move rfl) ?_  -- 13.20: t113 := move
      refine ER.silD rfl rfl rfl rfl (rfl) rfl rfl (Sil.move rfl) ?_  -- 13.21: t114 := move
      refine ER.stG rfl rfl rfl rfl (rfl) rfl rfl (fun w58 h58 => Stp.call fok13 rfl rfl (Calls.mono ((Scope_any (ms ++ [y]) q.v m w58 (hall.ext ((((((hE.trans h50).trans h54).trans h55).trans h56).trans h57).trans h58)) (few_len hfew))) ?_))  -- 13.22: t115 := call
      rintro _ w59 ⟨v59, rfl, h59, hj59⟩
      refine ⟨v59, rfl, h59, ?_⟩
      rw [scope_snoc hno hym hk] at hj59
      refine ER.exD rfl rfl rfl rfl (rfl) rfl rfl (Exa.call fok12 rfl rfl (fun wx hx => (same_any _ _ _ _ wx ((hi57.ext (h58.trans h59)).ext hx) (hj59.ext hx)))) ?_  -- 13.23: t116 := call
      rw [decide_eq_true rfl]
      refine ER.sil rfl rfl rfl rfl (Sil.pick rfl rfl rfl) ?_  -- 13.24: t117 := pick
      refine ER.sil rfl rfl rfl rfl (Sil.assign rfl) ?_  -- 13.25: t10 := assign
      refine ER.nil (fun w60 h60 => ?_)
      refine AQ.then ?_
      refine EC.ret ?_
      refine AQ.ret1 Try.results6 rfl ?_
      exact ⟨rfl, hwj.trans ((((((((hE.trans h50).trans h54).trans h55).trans h56).trans h57).trans h58).trans h59).trans h60)⟩

end Go.Proofs.Ytgagjmapjdeknaa
