/- Locate: the law Tells, walked. -/
import Derived.Test.YtcgapppamhffjaaW17
namespace Go.Proofs.Ytcgapppamhffjaa
open Go.RowKit Go.XK Go.LocateLaw

-- linchpin/linchpinlaw42.LocateTells: parameters ['api.Image', 'int', 'string', 'int'] (free 0), results [('ResultVar.tmp', 8)], 88 slots
set_option maxRecDepth 100000 in
theorem tells_any (cs : List Value) (inf : Inf) (p : Int) (s : ByteArray) (n : Int) (w : World) (hi : InfC w cs inf) :
    Calls Try.prog 3 [.agg cs.toArray, .int .i64 p, .string s, .int .i64 n].toArray w fun e w' => e = .returned (.bool true) ∧ Ext w w' := by
  refine calls_of Try.func3 rfl Try.ntmps3 rfl ?_
  refine EC.seq ?_
  -- region 0  law.go:41
  refine EC.region (fun i => [2, 1].getD i 0) [0, 1] rfl ?_
  refine ER.st rfl rfl rfl rfl (fun w1 h1 => Stp.box rfl (fun w2 h2 s2 r2 => ⟨h2, ?_⟩))  -- 0.0: t4 := box
  refine ER.sil rfl rfl rfl rfl (Sil.assign rfl) ?_  -- 0.1: t8 := assign
  refine ER.nil (fun w3 h3 => ?_)
  refine AQ.then ?_
  refine EC.seq ?_
  -- region 1  law.go:42
  refine EC.region (fun i => [0, 1].getD i 0) [0, 1] rfl ?_
  refine ER.ex rfl rfl rfl rfl (Exa.call fok5 rfl rfl (fun wx hx => (small_any wx))) ?_  -- 1.0: t18 := call
  refine ER.sil rfl rfl rfl rfl (Sil.assign rfl) ?_  -- 1.1: t9 := assign
  refine ER.nil (fun w4 h4 => ?_)
  refine AQ.then ?_
  refine EC.seq ?_
  refine EC.seq ?_
  -- region 2  law.go:43
  refine EC.region (fun i => [0, 0, 1].getD i 0) [0, 1, 2] rfl ?_
  refine ER.ex rfl rfl rfl rfl (Exa.loadAgg (vs := cs) (by rw [hi.len]; exact agg39) rfl ((r2.ext (h3.trans h4)).at)) ?_  -- 2.0: t19 := load
  refine ER.ex rfl rfl rfl rfl (Exa.call fok6 rfl rfl (fun wx hx => (few_any cs inf wx (hi.ext ((((h1.trans h2).trans h3).trans h4).trans hx))))) ?_  -- 2.1: t20 := call
  refine ER.sil rfl rfl rfl rfl (Sil.not rfl) ?_  -- 2.2: t21 := unOp
  refine ER.nil (fun w5 h5 => ?_)
  refine AQ.then ?_
  refine EC.cond rfl (fun hb0 => ?_) (fun hb0 => ?_)  -- cond 0: t21
  ·
    refine EC.seq ?_
    -- region 3  law.go:44
    refine EC.region (fun i => [1, 1].getD i 0) [0, 1] rfl ?_
    refine ER.sil rfl rfl rfl rfl (Sil.move rfl) ?_  -- 3.0: t22 := move
    refine ER.sil rfl rfl rfl rfl (Sil.assign rfl) ?_  -- 3.1: t8 := assign
    refine ER.nil (fun w6 h6 => ?_)
    refine AQ.then ?_
    refine EC.ret ?_
    refine AQ.thenRet ?_
    refine AQ.ret1 Try.results3 rfl ?_
    exact ⟨rfl, (((((h1.trans h2).trans h3).trans h4).trans h5).trans h6)⟩
  ·
    have hf : fewB inf = true := by simpa using hb0
    obtain ⟨f1, f2, f3, f4, f5⟩ := fewB_iff.1 hf
    refine EC.skip ?_
    refine AQ.then ?_
    refine EC.seq ?_
    -- region 4  law.go:46
    refine EC.region (fun i => [0, 1, 2, 1, 1, 1, 2, 3, 1].getD i 0) [0, 1, 2, 3, 4, 5, 6, 7, 8] rfl ?_
    refine ER.ex rfl rfl rfl rfl (Exa.loadAgg (vs := cs) (by rw [hi.len]; exact agg39) rfl ((r2.ext ((h3.trans h4).trans h5)).at)) ?_  -- 4.0: t24 := load
    refine ER.sil rfl rfl rfl rfl (Sil.move rfl) ?_  -- 4.1: t25 := move
    refine ER.st rfl rfl rfl rfl (fun w7 h7 => Stp.call fok7 rfl rfl (Calls.mono ((at_any cs inf p w7 (hi.ext (((((h1.trans h2).trans h3).trans h4).trans h5).trans h7)) f4)) ?_))  -- 4.2: t26 := call
    rintro _ w8 ⟨v8, rfl, h8, la8⟩
    refine ⟨_, rfl, h8, ?_⟩
    obtain ⟨a8, c8, rfl, _⟩ := LR.isS la8
    refine ER.sil rfl rfl rfl rfl (Sil.move rfl) ?_  -- 4.3: t23 := move
    refine ER.sil rfl rfl rfl rfl (Sil.extract rfl rfl) ?_  -- 4.4: t27 := extract
    refine ER.sil rfl rfl rfl rfl (Sil.extract rfl rfl) ?_  -- 4.5: t28 := extract
    refine ER.st rfl rfl rfl rfl (fun w9 h9 => Stp.alloc inf43 (fun w10 h10 s10 r10 => ⟨h10, ?_⟩))  -- 4.6: t10 := alloc
    refine ER.bar rfl rfl rfl rfl (fun w11 h11 => Stp.store (by kernel_rfl) rfl rfl (r10.ext h11) rfl rfl (fun w12 u12 r12 => ?_))  -- 4.7: tNone := store
    have e12 := ((h9.trans h10).trans h11).upd u12 h9.size
    refine ER.sil rfl rfl rfl rfl (Sil.assign rfl) ?_  -- 4.8: t11 := assign
    refine ER.nil (fun w13 h13 => ?_)
    refine AQ.then ?_
    refine EC.seq ?_
    -- region 5  law.go:47
    refine EC.region (fun i => [0, 1, 2, 1, 1, 1, 2, 3, 1].getD i 0) [0, 1, 2, 3, 4, 5, 6, 7, 8] rfl ?_
    refine ER.ex rfl rfl rfl rfl (Exa.loadAgg (vs := cs) (by rw [hi.len]; exact agg39) rfl ((r2.ext ((((((h3.trans h4).trans h5).trans h7).trans h8).trans e12).trans h13)).at)) ?_  -- 5.0: t30 := load
    refine ER.sil rfl rfl rfl rfl (Sil.move rfl) ?_  -- 5.1: t31 := move
    refine ER.st rfl rfl rfl rfl (fun w14 h14 => Stp.call fok8 rfl rfl (Calls.mono ((atr_any cs inf p w14 (hi.ext (((((((((h1.trans h2).trans h3).trans h4).trans h5).trans h7).trans h8).trans e12).trans h13).trans h14)) f4)) ?_))  -- 5.2: t32 := call
    rintro _ w15 ⟨v15, rfl, h15, lb15⟩
    refine ⟨_, rfl, h15, ?_⟩
    obtain ⟨a15, c15, rfl, _⟩ := LR.isS lb15
    refine ER.sil rfl rfl rfl rfl (Sil.move rfl) ?_  -- 5.3: t29 := move
    refine ER.sil rfl rfl rfl rfl (Sil.extract rfl rfl) ?_  -- 5.4: t33 := extract
    refine ER.sil rfl rfl rfl rfl (Sil.extract rfl rfl) ?_  -- 5.5: t34 := extract
    refine ER.st rfl rfl rfl rfl (fun w16 h16 => Stp.alloc inf43 (fun w17 h17 s17 r17 => ⟨h17, ?_⟩))  -- 5.6: t12 := alloc
    refine ER.bar rfl rfl rfl rfl (fun w18 h18 => Stp.store (by kernel_rfl) rfl rfl (r17.ext h18) rfl rfl (fun w19 u19 r19 => ?_))  -- 5.7: tNone := store
    have e19 := ((h16.trans h17).trans h18).upd u19 h16.size
    refine ER.sil rfl rfl rfl rfl (Sil.assign rfl) ?_  -- 5.8: t13 := assign
    refine ER.nil (fun w20 h20 => ?_)
    refine AQ.then ?_
    refine EC.seq ?_
    -- region 6  law.go:48
    refine EC.region (fun i => [0, 1, 0, 1, 1, 1, 1, 1].getD i 0) [0, 1, 2, 3, 4, 5, 6, 7] rfl ?_
    refine ER.ex rfl rfl rfl rfl (Exa.loadAgg (vs := cs) (by rw [hi.len]; exact agg39) rfl ((r2.ext ((((((((((h3.trans h4).trans h5).trans h7).trans h8).trans e12).trans h13).trans h14).trans h15).trans e19).trans h20)).at)) ?_  -- 6.0: t36 := load
    refine ER.sil rfl rfl rfl rfl (Sil.move rfl) ?_  -- 6.1: t37 := move
    refine ER.ex rfl rfl rfl rfl (Exa.call fok9 rfl rfl (fun wx hx => (find_any cs inf s wx (hi.ext (((((((((((((h1.trans h2).trans h3).trans h4).trans h5).trans h7).trans h8).trans e12).trans h13).trans h14).trans h15).trans e19).trans h20).trans hx))))) ?_  -- 6.2: t38 := call
    refine ER.sil rfl rfl rfl rfl (Sil.move rfl) ?_  -- 6.3: t35 := move
    refine ER.sil rfl rfl rfl rfl (Sil.extract rfl rfl) ?_  -- 6.4: t39 := extract
    refine ER.sil rfl rfl rfl rfl (Sil.extract rfl rfl) ?_  -- 6.5: t40 := extract
    refine ER.sil rfl rfl rfl rfl (Sil.assign rfl) ?_  -- 6.6: t14 := assign
    refine ER.sil rfl rfl rfl rfl (Sil.assign rfl) ?_  -- 6.7: t15 := assign
    refine ER.nil (fun w21 h21 => ?_)
    refine AQ.then ?_
    refine EC.seq ?_
    -- region 7  law.go:49
    refine EC.region (fun i => [0, 1, 0, 1, 1, 1, 1, 1].getD i 0) [0, 1, 2, 3, 4, 5, 6, 7] rfl ?_
    refine ER.ex rfl rfl rfl rfl (Exa.loadAgg (vs := cs) (by rw [hi.len]; exact agg39) rfl ((r2.ext (((((((((((h3.trans h4).trans h5).trans h7).trans h8).trans e12).trans h13).trans h14).trans h15).trans e19).trans h20).trans h21)).at)) ?_  -- 7.0: t42 := load
    refine ER.sil rfl rfl rfl rfl (Sil.move rfl) ?_  -- 7.1: t43 := move
    refine ER.ex rfl rfl rfl rfl (Exa.call fok10 rfl rfl (fun wx hx => (findr_any cs inf s wx (hi.ext ((((((((((((((h1.trans h2).trans h3).trans h4).trans h5).trans h7).trans h8).trans e12).trans h13).trans h14).trans h15).trans e19).trans h20).trans h21).trans hx))))) ?_  -- 7.2: t44 := call
    refine ER.sil rfl rfl rfl rfl (Sil.move rfl) ?_  -- 7.3: t41 := move
    refine ER.sil rfl rfl rfl rfl (Sil.extract rfl rfl) ?_  -- 7.4: t45 := extract
    refine ER.sil rfl rfl rfl rfl (Sil.extract rfl rfl) ?_  -- 7.5: t46 := extract
    refine ER.sil rfl rfl rfl rfl (Sil.assign rfl) ?_  -- 7.6: t16 := assign
    refine ER.sil rfl rfl rfl rfl (Sil.assign rfl) ?_  -- 7.7: t17 := assign
    refine ER.nil (fun w22 h22 => ?_)
    refine AQ.then ?_
    refine EC.seq ?_
    -- region 8  law.go:50
    refine EC.draw (fun i => [1, 1, 0, 0, 0, 1, 1, 1, 1, 1, 1, 1, 0, 1, 2, 0, 1, 2, 0, 1, 1, 1, 1, 1, 1, 1, 1, 1, 1, 1, 1, 0, 1, 1, 2, 0, 1, 1, 2, 0, 1, 1].getD i 0) [0, 1, 2, 3, 4, 5, 6, 7, 8, 9, 10, 11, 12, 13, 15, 16, 14, 17, 18, 19, 20, 21, 22, 23, 24, 25, 26, 27, 28, 29, 30, 31, 32, 33, 35, 36, 37, 34, 38, 39, 40, 41] (by kernel_rfl) (by kernel_rfl) ?_
    refine ER.sil rfl rfl rfl rfl (Sil.move rfl) ?_  -- 8.0: t47 := move
    refine ER.sil rfl rfl rfl rfl (Sil.move rfl) ?_  -- 8.1: t48 := move
    refine ER.exD rfl rfl rfl rfl (rfl) rfl rfl (Exa.loadAgg (vs := (sotC (atS inf p) _)) agg43 rfl ((r12.ext ((((((h13.trans h14).trans h15).trans e19).trans h20).trans h21).trans h22)).at)) ?_  -- 8.2: t49 := load
    refine ER.exD rfl rfl rfl rfl (rfl) rfl rfl (Exa.loadAgg (vs := (sotC (atS inf p) _)) agg43 rfl ((r19.ext ((h20.trans h21).trans h22)).at)) ?_  -- 8.3: t50 := load
    refine ER.exD rfl rfl rfl rfl (rfl) rfl rfl (Exa.call fok11 rfl rfl (fun wx hx => (sames_any (atS inf p) _ _ wx ((la8.ext (((((((e12.trans h13).trans h14).trans h15).trans e19).trans h20).trans h21).trans h22)).ext hx) ((lb15.ext (((e19.trans h20).trans h21).trans h22)).ext hx)))) ?_  -- 8.4: t51 := call
    refine ER.sil rfl rfl rfl rfl (Sil.pick rfl rfl rfl) ?_  -- 8.5: t52 := pick
    refine ER.sil rfl rfl rfl rfl (Sil.move rfl) ?_  -- 8.6: t53 := move
    refine ER.silD rfl rfl rfl rfl (rfl) rfl rfl (Sil.move rfl) ?_  -- 8.7: t54 := move
    refine ER.silD rfl rfl rfl rfl (rfl) rfl rfl (Sil.move rfl) ?_  -- 8.8: t55 := move
    refine ER.silD rfl rfl rfl rfl (rfl) rfl rfl (Sil.beql Try.underlying4 rfl rfl) ?_  -- 8.9: t56 := binOp
    rw [beq_self_eq_true]
    refine ER.sil rfl rfl rfl rfl (Sil.pick rfl rfl rfl) ?_  -- 8.10: t57 := pick
    refine ER.sil rfl rfl rfl rfl (Sil.move rfl) ?_  -- 8.11: t58 := move
    refine ER.exD rfl rfl rfl rfl (rfl) rfl rfl (Exa.loadAgg (vs := cs) (by rw [hi.len]; exact agg39) rfl ((r2.ext ((((((((((((h3.trans h4).trans h5).trans h7).trans h8).trans e12).trans h13).trans h14).trans h15).trans e19).trans h20).trans h21).trans h22)).at)) ?_  -- 8.12: t59 := load
    refine ER.silD rfl rfl rfl rfl (rfl) rfl rfl (Sil.move rfl) ?_  -- 8.13: t60 := move
    refine ER.exD rfl rfl rfl rfl (rfl) rfl rfl (Exa.loadAgg (vs := cs) (by rw [hi.len]; exact agg39) rfl ((r2.ext ((((((((((((h3.trans h4).trans h5).trans h7).trans h8).trans e12).trans h13).trans h14).trans h15).trans e19).trans h20).trans h21).trans h22)).at)) ?_  -- 8.15: t62 := load
    refine ER.silD rfl rfl rfl rfl (rfl) rfl rfl (Sil.move rfl) ?_  -- 8.16: t63 := move
    refine ER.stG rfl rfl rfl rfl (rfl) rfl rfl (fun w23 h23 => Stp.call fok13 rfl rfl (Calls.mono ((vars_any cs inf p w23 (hi.ext (((((((((((((((h1.trans h2).trans h3).trans h4).trans h5).trans h7).trans h8).trans e12).trans h13).trans h14).trans h15).trans e19).trans h20).trans h21).trans h22).trans h23)) f5)) ?_))  -- 8.14: t61 := call
    rintro _ w24 ⟨v24, rfl, h24, lv24⟩
    refine ⟨_, rfl, h24, ?_⟩
    refine ER.stG rfl rfl rfl rfl (rfl) rfl rfl (fun w25 h25 => Stp.call fok14 rfl rfl (Calls.mono ((varsr_any cs inf p w25 (hi.ext (((((((((((((((((h1.trans h2).trans h3).trans h4).trans h5).trans h7).trans h8).trans e12).trans h13).trans h14).trans h15).trans e19).trans h20).trans h21).trans h22).trans h23).trans h24).trans h25)) f5)) ?_))  -- 8.17: t64 := call
    rintro _ w26 ⟨v26, rfl, h26, lw26⟩
    refine ⟨_, rfl, h26, ?_⟩
    refine ER.exD rfl rfl rfl rfl (rfl) rfl rfl (Exa.call fok12 rfl rfl (fun wx hx => (samev_any _ _ _ wx ((lv24.ext (h25.trans h26)).ext hx) (lw26.ext hx)))) ?_  -- 8.18: t65 := call
    refine ER.sil rfl rfl rfl rfl (Sil.pick rfl rfl rfl) ?_  -- 8.19: t66 := pick
    refine ER.sil rfl rfl rfl rfl (Sil.move rfl) ?_  -- 8.20: t67 := move
    refine ER.silD rfl rfl rfl rfl (rfl) rfl rfl (Sil.move rfl) ?_  -- 8.21: t68 := move
    refine ER.silD rfl rfl rfl rfl (rfl) rfl rfl (Sil.move rfl) ?_  -- 8.22: t69 := move
    refine ER.silD rfl rfl rfl rfl (rfl) rfl rfl (Sil.eql rfl rfl) ?_  -- 8.23: t70 := binOp
    rw [beq_self_eq_true]
    refine ER.sil rfl rfl rfl rfl (Sil.pick rfl rfl rfl) ?_  -- 8.24: t71 := pick
    refine ER.sil rfl rfl rfl rfl (Sil.move rfl) ?_  -- 8.25: t72 := move
    refine ER.silD rfl rfl rfl rfl (rfl) rfl rfl (Sil.move rfl) ?_  -- 8.26: t73 := move
    refine ER.silD rfl rfl rfl rfl (rfl) rfl rfl (Sil.move rfl) ?_  -- 8.27: t74 := move
    refine ER.silD rfl rfl rfl rfl (rfl) rfl rfl (Sil.beql Try.underlying4 rfl rfl) ?_  -- 8.28: t75 := binOp
    rw [beq_self_eq_true]
    refine ER.sil rfl rfl rfl rfl (Sil.pick rfl rfl rfl) ?_  -- 8.29: t76 := pick
    refine ER.sil rfl rfl rfl rfl (Sil.move rfl) ?_  -- 8.30: t77 := move
    refine ER.exD rfl rfl rfl rfl (rfl) rfl rfl (Exa.loadAgg (vs := cs) (by rw [hi.len]; exact agg39) rfl ((r2.ext ((((((((((((((((h3.trans h4).trans h5).trans h7).trans h8).trans e12).trans h13).trans h14).trans h15).trans e19).trans h20).trans h21).trans h22).trans h23).trans h24).trans h25).trans h26)).at)) ?_  -- 8.31: t78 := load
    refine ER.silD rfl rfl rfl rfl (rfl) rfl rfl (Sil.move rfl) ?_  -- 8.32: t79 := move
    refine ER.silD rfl rfl rfl rfl (rfl) rfl rfl (Sil.move rfl) ?_  -- 8.33: t80 := move
    refine ER.exD rfl rfl rfl rfl (rfl) rfl rfl (Exa.loadAgg (vs := cs) (by rw [hi.len]; exact agg39) rfl ((r2.ext ((((((((((((((((h3.trans h4).trans h5).trans h7).trans h8).trans e12).trans h13).trans h14).trans h15).trans e19).trans h20).trans h21).trans h22).trans h23).trans h24).trans h25).trans h26)).at)) ?_  -- 8.35: t82 := load
    refine ER.silD rfl rfl rfl rfl (rfl) rfl rfl (Sil.move rfl) ?_  -- 8.36: t83 := move
    refine ER.silD rfl rfl rfl rfl (rfl) rfl rfl (Sil.move rfl) ?_  -- 8.37: t84 := move
    refine ER.stG rfl rfl rfl rfl (rfl) rfl rfl (fun w27 h27 => Stp.call fok16 rfl rfl (Calls.mono ((of_any cs inf s n w27 (hi.ext (((((((((((((((((((h1.trans h2).trans h3).trans h4).trans h5).trans h7).trans h8).trans e12).trans h13).trans h14).trans h15).trans e19).trans h20).trans h21).trans h22).trans h23).trans h24).trans h25).trans h26).trans h27)) f2)) ?_))  -- 8.34: t81 := call
    rintro _ w28 ⟨v28, rfl, h28, lo28⟩
    refine ⟨_, rfl, h28, ?_⟩
    rw [compact_ofS] at lo28
    refine ER.stG rfl rfl rfl rfl (rfl) rfl rfl (fun w29 h29 => Stp.call fok17 rfl rfl (Calls.mono ((ofr_any cs inf s n w29 (hi.ext (((((((((((((((((((((h1.trans h2).trans h3).trans h4).trans h5).trans h7).trans h8).trans e12).trans h13).trans h14).trans h15).trans e19).trans h20).trans h21).trans h22).trans h23).trans h24).trans h25).trans h26).trans h27).trans h28).trans h29)) f2)) ?_))  -- 8.38: t85 := call
    rintro _ w30 ⟨v30, rfl, h30, lp30⟩
    refine ⟨_, rfl, h30, ?_⟩
    refine ER.exD rfl rfl rfl rfl (rfl) rfl rfl (Exa.call fok15 rfl rfl (fun wx hx => (samei_any _ _ _ wx ((lo28.ext (h29.trans h30)).ext hx) (lp30.ext hx)))) ?_  -- 8.39: t86 := call
    refine ER.sil rfl rfl rfl rfl (Sil.pick rfl rfl rfl) ?_  -- 8.40: t87 := pick
    refine ER.sil rfl rfl rfl rfl (Sil.assign rfl) ?_  -- 8.41: t8 := assign
    refine ER.nil (fun w31 h31 => ?_)
    refine AQ.then ?_
    refine EC.ret ?_
    refine AQ.ret1 Try.results3 rfl ?_
    exact ⟨rfl, (((((((((((((((((((((((h1.trans h2).trans h3).trans h4).trans h5).trans h7).trans h8).trans e12).trans h13).trans h14).trans h15).trans e19).trans h20).trans h21).trans h22).trans h23).trans h24).trans h25).trans h26).trans h27).trans h28).trans h29).trans h30).trans h31)⟩

end Go.Proofs.Ytcgapppamhffjaa
