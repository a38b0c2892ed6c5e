/- Bind: the law Tells, walked. -/
import Derived.Test.YtgagjmapjdeknaaW20
namespace Go.Proofs.Ytgagjmapjdeknaa
open Go.RowKit Go.XK Go.BindLaw

-- linchpin/linchpinlaw31.BindTells: parameters ['[]api.Module', 'int', 'string', 'string', 'int'] (free 0), results [('ResultVar.tmp', 10)], 126 slots
set_option maxRecDepth 100000 in
theorem tells_any (ms : List Mo) (v : Value) (m : Int) (name want : ByteArray) (x : Int) (w : World) (hms : Mods w v ms) :
    Calls Try.prog 3 [v, .int .i64 m, .string name, .string want, .int .i64 x].toArray w fun e w' => e = .returned (.bool true) ∧ Ext w w' := by
  refine calls_of Try.func3 rfl Try.ntmps3 rfl ?_
  refine EC.seq ?_
  -- region 0  law.go:52
  refine EC.region (fun i => [1].getD i 0) [0] rfl ?_
  refine ER.sil rfl rfl rfl rfl (Sil.assign rfl) ?_  -- 0.0: t10 := assign
  refine ER.nil (fun w1 h1 => ?_)
  refine AQ.then ?_
  refine EC.seq ?_
  -- region 1  law.go:53
  refine EC.region (fun i => [0, 1].getD i 0) [0, 1] rfl ?_
  refine ER.ex rfl rfl rfl rfl (Exa.call fok8 rfl rfl (fun wx hx => (small_any wx))) ?_  -- 1.0: t21 := call
  refine ER.sil rfl rfl rfl rfl (Sil.assign rfl) ?_  -- 1.1: t11 := assign
  refine ER.nil (fun w2 h2 => ?_)
  refine AQ.then ?_
  refine EC.seq ?_
  refine EC.seq ?_
  -- region 2  law.go:54
  refine EC.region (fun i => [1, 0, 1].getD i 0) [0, 1, 2] rfl ?_
  refine ER.sil rfl rfl rfl rfl (Sil.move rfl) ?_  -- 2.0: t22 := move
  refine ER.ex rfl rfl rfl rfl (Exa.call fok9 rfl rfl (fun wx hx => (few_any ms v wx (hms.ext ((h1.trans h2).trans hx))))) ?_  -- 2.1: t23 := call
  refine ER.sil rfl rfl rfl rfl (Sil.not rfl) ?_  -- 2.2: t24 := unOp
  refine ER.nil (fun w3 h3 => ?_)
  refine AQ.then ?_
  refine EC.cond rfl (fun hb0 => ?_) (fun hb0 => ?_)  -- cond 0: t24
  ·
    refine EC.seq ?_
    -- region 3  law.go:55
    refine EC.region (fun i => [1, 1].getD i 0) [0, 1] rfl ?_
    refine ER.sil rfl rfl rfl rfl (Sil.move rfl) ?_  -- 3.0: t25 := move
    refine ER.sil rfl rfl rfl rfl (Sil.assign rfl) ?_  -- 3.1: t10 := assign
    refine ER.nil (fun w4 h4 => ?_)
    refine AQ.then ?_
    refine EC.ret ?_
    refine AQ.thenRet ?_
    refine AQ.ret1 Try.results3 rfl ?_
    exact ⟨rfl, (((h1.trans h2).trans h3).trans h4)⟩
  ·
    have hfew : fewB ms = true := by simpa using hb0
    refine EC.skip ?_
    refine AQ.then ?_
    refine EC.seq ?_
    -- region 4  law.go:57
    refine EC.region (fun i => [1, 1, 1, 1, 0, 1, 1, 1, 1, 1, 1, 1].getD i 0) [0, 1, 2, 3, 4, 5, 6, 7, 8, 9, 10, 11] rfl ?_
    refine ER.sil rfl rfl rfl rfl (Sil.move rfl) ?_  -- 4.0: t27 := move
    refine ER.sil rfl rfl rfl rfl (Sil.move rfl) ?_  -- 4.1: t28 := move
    refine ER.sil rfl rfl rfl rfl (Sil.move rfl) ?_  -- 4.2: t29 := move
    refine ER.sil rfl rfl rfl rfl (Sil.move rfl) ?_  -- 4.3: t30 := move
    refine ER.ex rfl rfl rfl rfl (Exa.call fok10 rfl rfl (fun wx hx => (Find_any ms v m name want wx (hms.ext (((h1.trans h2).trans h3).trans hx)) (few_len hfew)))) ?_  -- 4.4: t31 := call
    refine ER.sil rfl rfl rfl rfl (Sil.move rfl) ?_  -- 4.5: t26 := move
    refine ER.sil rfl rfl rfl rfl (Sil.extract rfl rfl) ?_  -- 4.6: t32 := extract
    refine ER.sil rfl rfl rfl rfl (Sil.extract rfl rfl) ?_  -- 4.7: t33 := extract
    refine ER.sil rfl rfl rfl rfl (Sil.extract rfl rfl) ?_  -- 4.8: t34 := extract
    refine ER.sil rfl rfl rfl rfl (Sil.assign rfl) ?_  -- 4.9: t12 := assign
    refine ER.sil rfl rfl rfl rfl (Sil.assign rfl) ?_  -- 4.10: t13 := assign
    refine ER.sil rfl rfl rfl rfl (Sil.assign rfl) ?_  -- 4.11: t14 := assign
    refine ER.nil (fun w5 h5 => ?_)
    refine AQ.then ?_
    refine EC.seq ?_
    -- region 5  law.go:58
    refine EC.region (fun i => [1, 1, 1, 1, 0, 1, 1, 1, 1, 1, 1, 1].getD i 0) [0, 1, 2, 3, 4, 5, 6, 7, 8, 9, 10, 11] rfl ?_
    refine ER.sil rfl rfl rfl rfl (Sil.move rfl) ?_  -- 5.0: t36 := move
    refine ER.sil rfl rfl rfl rfl (Sil.move rfl) ?_  -- 5.1: t37 := move
    refine ER.sil rfl rfl rfl rfl (Sil.move rfl) ?_  -- 5.2: t38 := move
    refine ER.sil rfl rfl rfl rfl (Sil.move rfl) ?_  -- 5.3: t39 := move
    refine ER.ex rfl rfl rfl rfl (Exa.call fok11 rfl rfl (fun wx hx => (findR_any ms v m name want wx (hms.ext ((((h1.trans h2).trans h3).trans h5).trans hx)) (few_len hfew) (few_univ hfew)))) ?_  -- 5.4: t40 := call
    refine ER.sil rfl rfl rfl rfl (Sil.move rfl) ?_  -- 5.5: t35 := move
    refine ER.sil rfl rfl rfl rfl (Sil.extract rfl rfl) ?_  -- 5.6: t41 := extract
    refine ER.sil rfl rfl rfl rfl (Sil.extract rfl rfl) ?_  -- 5.7: t42 := extract
    refine ER.sil rfl rfl rfl rfl (Sil.extract rfl rfl) ?_  -- 5.8: t43 := extract
    refine ER.sil rfl rfl rfl rfl (Sil.assign rfl) ?_  -- 5.9: t15 := assign
    refine ER.sil rfl rfl rfl rfl (Sil.assign rfl) ?_  -- 5.10: t16 := assign
    refine ER.sil rfl rfl rfl rfl (Sil.assign rfl) ?_  -- 5.11: t17 := assign
    refine ER.nil (fun w6 h6 => ?_)
    refine AQ.then ?_
    refine EC.seq ?_
    refine EC.seq ?_
    -- region 6  law.go:59
    refine EC.region (fun i => [1, 1, 1, 1, 1, 1, 1, 1, 1, 1, 1, 1, 1, 1, 1, 1, 2, 1, 1, 2, 0, 1, 1, 1, 1, 1, 1, 0, 1, 1, 1, 0, 1, 1].getD i 0) [0, 1, 2, 3, 4, 5, 6, 7, 8, 9, 10, 11, 12, 13, 14, 15, 16, 17, 18, 19, 20, 21, 22, 23, 24, 25, 26, 27, 28, 29, 30, 31, 32, 33] rfl ?_
    refine ER.sil rfl rfl rfl rfl (Sil.move rfl) ?_  -- 6.0: t44 := move
    refine ER.sil rfl rfl rfl rfl (Sil.move rfl) ?_  -- 6.1: t45 := move
    refine ER.sil rfl rfl rfl rfl (Sil.neq rfl rfl) ?_  -- 6.2: t46 := binOp
    rw [bne_self_eq_false]
    refine ER.sil rfl rfl rfl rfl (Sil.move rfl) ?_  -- 6.3: t47 := move
    refine ER.silD rfl rfl rfl rfl (rfl) rfl rfl (Sil.move rfl) ?_  -- 6.4: t48 := move
    refine ER.silD rfl rfl rfl rfl (rfl) rfl rfl (Sil.move rfl) ?_  -- 6.5: t49 := move
    refine ER.silD rfl rfl rfl rfl (rfl) rfl rfl (Sil.neq rfl rfl) ?_  -- 6.6: t50 := binOp
    rw [bne_self_eq_false]
    refine ER.sil rfl rfl rfl rfl (Sil.pick rfl rfl rfl) ?_  -- 6.7: t51 := pick
    refine ER.sil rfl rfl rfl rfl (Sil.move rfl) ?_  -- 6.8: t52 := move
    refine ER.silD rfl rfl rfl rfl (rfl) rfl rfl (Sil.move rfl) ?_  -- 6.9: t53 := move
    refine ER.silD rfl rfl rfl rfl (rfl) rfl rfl (Sil.move rfl) ?_  -- 6.10: t54 := move
    refine ER.silD rfl rfl rfl rfl (rfl) rfl rfl (Sil.bneq Try.underlying4 rfl rfl) ?_  -- 6.11: t55 := binOp
    rw [bne_self_eq_false]
    refine ER.sil rfl rfl rfl rfl (Sil.pick rfl rfl rfl) ?_  -- 6.12: t56 := pick
    refine ER.sil rfl rfl rfl rfl (Sil.move rfl) ?_  -- 6.13: t57 := move
    refine ER.silD rfl rfl rfl rfl (rfl) rfl rfl (Sil.move rfl) ?_  -- 6.14: t58 := move
    refine ER.silD rfl rfl rfl rfl (rfl) rfl rfl (Sil.move rfl) ?_  -- 6.15: t59 := move
    refine ER.stG rfl rfl rfl rfl (rfl) rfl rfl (fun w7 h7 => Stp.call fok13 rfl rfl (Calls.mono ((Scope_any ms v m w7 (hms.ext (((((h1.trans h2).trans h3).trans h5).trans h6).trans h7)) (few_len hfew))) ?_))  -- 6.16: t60 := call
    rintro _ w8 ⟨v8, rfl, h8, hi8⟩
    refine ⟨v8, rfl, h8, ?_⟩
    refine ER.silD rfl rfl rfl rfl (rfl) rfl rfl (Sil.move rfl) ?_  -- 6.17: t61 := move
    refine ER.silD rfl rfl rfl rfl (rfl) rfl rfl (Sil.move rfl) ?_  -- 6.18: t62 := move
    refine ER.stG rfl rfl rfl rfl (rfl) rfl rfl (fun w9 h9 => Stp.call fok14 rfl rfl (Calls.mono ((scopR_any ms v m w9 (hms.ext (((((((h1.trans h2).trans h3).trans h5).trans h6).trans h7).trans h8).trans h9)) (few_len hfew))) ?_))  -- 6.19: t63 := call
    rintro _ w10 ⟨v10, rfl, h10, hj10⟩
    refine ⟨v10, rfl, h10, ?_⟩
    refine ER.exD rfl rfl rfl rfl (rfl) rfl rfl (Exa.call fok12 rfl rfl (fun wx hx => (same_any _ _ _ _ wx ((hi8.ext (h9.trans h10)).ext hx) (hj10.ext hx)))) ?_  -- 6.20: t64 := call
    rw [decide_eq_true rfl]
    refine ER.silD rfl rfl rfl rfl (rfl) rfl rfl (Sil.not rfl) ?_  -- 6.21: t65 := unOp
    refine ER.sil rfl rfl rfl rfl (Sil.pick rfl rfl rfl) ?_  -- 6.22: t66 := pick
    refine ER.sil rfl rfl rfl rfl (Sil.move rfl) ?_  -- 6.23: t67 := move
    refine ER.silD rfl rfl rfl rfl (rfl) rfl rfl (Sil.move rfl) ?_  -- 6.24: t68 := move
    refine ER.silD rfl rfl rfl rfl (rfl) rfl rfl (Sil.move rfl) ?_  -- 6.25: t69 := move
    refine ER.silD rfl rfl rfl rfl (rfl) rfl rfl (Sil.move rfl) ?_  -- 6.26: t70 := move
    refine ER.exD rfl rfl rfl rfl (rfl) rfl rfl (Exa.call fok15 rfl rfl (fun wx hx => (Address_any ms v m x wx (hms.ext (((((((((h1.trans h2).trans h3).trans h5).trans h6).trans h7).trans h8).trans h9).trans h10).trans hx))))) ?_  -- 6.27: t71 := call
    refine ER.silD rfl rfl rfl rfl (rfl) rfl rfl (Sil.move rfl) ?_  -- 6.28: t72 := move
    refine ER.silD rfl rfl rfl rfl (rfl) rfl rfl (Sil.move rfl) ?_  -- 6.29: t73 := move
    refine ER.silD rfl rfl rfl rfl (rfl) rfl rfl (Sil.move rfl) ?_  -- 6.30: t74 := move
    refine ER.exD rfl rfl rfl rfl (rfl) rfl rfl (Exa.call fok16 rfl rfl (fun wx hx => (AddressR_any ms v m x wx (hms.ext (((((((((h1.trans h2).trans h3).trans h5).trans h6).trans h7).trans h8).trans h9).trans h10).trans hx))))) ?_  -- 6.31: t75 := call
    refine ER.silD rfl rfl rfl rfl (rfl) rfl rfl (Sil.neq rfl rfl) ?_  -- 6.32: t76 := binOp
    rw [bne_self_eq_false]
    refine ER.sil rfl rfl rfl rfl (Sil.pick rfl rfl rfl) ?_  -- 6.33: t77 := pick
    refine ER.nil (fun w11 h11 => ?_)
    refine AQ.then ?_
    refine EC.cond rfl (fun hb1 => ?_) (fun hb1 => ?_)  -- cond 1: t77
    ·
      cases hb1
    ·
      refine EC.skip ?_
      refine AQ.then ?_
      refine EC.seq ?_
      -- region 8  law.go:62
      refine EC.region (fun i => [1, 1, 1, 1, 2, 1].getD i 0) [0, 1, 2, 3, 4, 5] rfl ?_
      refine ER.sil rfl rfl rfl rfl (Sil.move rfl) ?_  -- 8.0: t78 := move
      refine ER.sil rfl rfl rfl rfl (Sil.move rfl) ?_  -- 8.1: t79 := move
      refine ER.sil rfl rfl rfl rfl (Sil.move rfl) ?_  -- 8.2: t80 := move
      refine ER.sil rfl rfl rfl rfl (Sil.move rfl) ?_  -- 8.3: t81 := move
      refine ER.st rfl rfl rfl rfl (fun w12 h12 => Stp.call fok17 rfl rfl (Calls.mono ((Why_any ms v m name want w12 (hms.ext ((((((((((h1.trans h2).trans h3).trans h5).trans h6).trans h7).trans h8).trans h9).trans h10).trans h11).trans h12)) (few_len hfew))) ?_))  -- 8.4: t82 := call
      rintro _ w13 ⟨v13, rfl, h13, hr13⟩
      refine ⟨v13, rfl, h13, ?_⟩
      refine ER.sil rfl rfl rfl rfl (Sil.assign rfl) ?_  -- 8.5: t18 := assign
      refine ER.nil (fun w14 h14 => ?_)
      refine AQ.then ?_
      refine EC.seq ?_
      -- region 9  law.go:63
      refine EC.region (fun i => [1, 1, 1, 1, 2, 1].getD i 0) [0, 1, 2, 3, 4, 5] rfl ?_
      refine ER.sil rfl rfl rfl rfl (Sil.move rfl) ?_  -- 9.0: t83 := move
      refine ER.sil rfl rfl rfl rfl (Sil.move rfl) ?_  -- 9.1: t84 := move
      refine ER.sil rfl rfl rfl rfl (Sil.move rfl) ?_  -- 9.2: t85 := move
      refine ER.sil rfl rfl rfl rfl (Sil.move rfl) ?_  -- 9.3: t86 := move
      refine ER.st rfl rfl rfl rfl (fun w15 h15 => Stp.call fok18 rfl rfl (Calls.mono ((whyR_any ms v m name want w15 (hms.ext (((((((((((((h1.trans h2).trans h3).trans h5).trans h6).trans h7).trans h8).trans h9).trans h10).trans h11).trans h12).trans h13).trans h14).trans h15)) (few_len hfew) (few_univ hfew))) ?_))  -- 9.4: t87 := call
      rintro _ w16 ⟨v16, rfl, h16, hy16⟩
      refine ⟨v16, rfl, h16, ?_⟩
      refine ER.sil rfl rfl rfl rfl (Sil.assign rfl) ?_  -- 9.5: t19 := assign
      refine ER.nil (fun w17 h17 => ?_)
      refine AQ.then ?_
      refine EC.seq ?_
      refine EC.seq ?_
      -- region 10  law.go:64
      refine EC.region (fun i => [1, 1, 1, 1, 1].getD i 0) [0, 1, 2, 3, 4] rfl ?_
      refine ER.sil rfl rfl rfl rfl (Sil.move rfl) ?_  -- 10.0: t88 := move
      refine ER.sil rfl rfl rfl rfl (Sil.lenR Try.underlying31 rfl (Refs.isS (hr13.ext (((h14.trans h15).trans h16).trans h17)))) ?_  -- 10.1: t89 := call
      refine ER.sil rfl rfl rfl rfl (Sil.move rfl) ?_  -- 10.2: t90 := move
      refine ER.sil rfl rfl rfl rfl (Sil.lenR Try.underlying33 rfl (Pairs.isS (hy16.ext h17))) ?_  -- 10.3: t91 := call
      refine ER.sil rfl rfl rfl rfl (Sil.neq rfl rfl) ?_  -- 10.4: t92 := binOp
      rw [bne_self_eq_false]
      refine ER.nil (fun w18 h18 => ?_)
      refine AQ.then ?_
      refine EC.cond rfl (fun hb2 => ?_) (fun hb2 => ?_)  -- cond 2: t92
      ·
        cases hb2
      ·
        refine EC.skip ?_
        refine AQ.then ?_
        refine EC.seq ?_
        refine EC.seq ?_
        -- region 12  law.go:67
        refine EC.region (fun i => [1].getD i 0) [0] rfl ?_
        refine ER.sil rfl rfl rfl rfl (Sil.assign rfl) ?_  -- 12.0: t20 := assign
        refine ER.nil (fun w19 h19 => ?_)
        refine AQ.then ?_
        refine EC.block ?_
        refine EC.loop (σ := Nat) (fun k => [(11, .bool true), (18, v13), (19, v16), (20, .int .i64 (k : Int))]) (fun k wr => Ext w wr ∧ Refs wr v13 (whyL ms (scopeL ms m) name want) ∧ Pairs wr v16 (whyL ms (scopeL ms m) name want) ∧ k ≤ (whyL ms (scopeL ms m) name want).length) (fun k => (whyL ms (scopeL ms m) name want).length - k) 0 [11, 18, 19, 20] rfl ?_ (fun k wr hF => ?_)
        · exact ⟨(((((((((((((((((h1.trans h2).trans h3).trans h5).trans h6).trans h7).trans h8).trans h9).trans h10).trans h11).trans h12).trans h13).trans h14).trans h15).trans h16).trans h17).trans h18).trans h19), (hr13.ext (((((h14.trans h15).trans h16).trans h17).trans h18).trans h19)), (hy16.ext ((h17.trans h18).trans h19)), Nat.zero_le _⟩
        obtain ⟨hE, hr, hy, hk⟩ := hF
        have hrm := ListR.max hr
        refine EC.seq ?_
        refine EC.seq ?_
        -- region 13  law.go:67
        refine EC.region (fun i => [1, 1, 1, 1].getD i 0) [0, 1, 2, 3] rfl ?_
        refine ER.sil rfl rfl rfl rfl (Sil.move rfl) ?_  -- 13.0: t93 := move
        refine ER.sil rfl rfl rfl rfl (Sil.move rfl) ?_  -- 13.1: t94 := move
        refine ER.sil rfl rfl rfl rfl (Sil.lenR Try.underlying31 rfl (Refs.isS hr)) ?_  -- 13.2: t95 := call
        refine ER.sil rfl rfl rfl rfl (Sil.lss rfl rfl) ?_  -- 13.3: t96 := binOp
        refine ER.nil (fun w20 h20 => ?_)
        refine AQ.then ?_
        refine EC.cond rfl (fun hb3 => ?_) (fun hb3 => ?_)  -- cond 3: t96
        ·
          have hlt : k < (whyL ms (scopeL ms m) name want).length := by have := of_decide_eq_true hb3; omega
          obtain ⟨yb, hyc, hyr⟩ := hy.get hlt
          refine EC.skip ?_
          refine AQ.then ?_
          refine EC.seq ?_
          refine EC.block ?_
          refine EC.seq ?_
          -- region 15  law.go:68
          refine EC.draw (fun i => [1, 1, 1, 1, 0, 1, 1, 1, 0, 1, 0, 1, 1, 1, 1, 1, 1, 0, 1, 1, 1, 0, 1, 0, 1, 1].getD i 0) [0, 1, 2, 3, 4, 5, 6, 7, 8, 9, 10, 11, 12, 13, 14, 15, 16, 17, 18, 19, 20, 21, 22, 23, 24, 25] (by kernel_rfl) (by kernel_rfl) ?_
          refine ER.sil rfl rfl rfl rfl (Sil.move rfl) ?_  -- 15.0: t99 := move
          refine ER.sil rfl rfl rfl rfl (Sil.move rfl) ?_  -- 15.1: t100 := move
          refine ER.sil rfl rfl rfl rfl (Sil.indexR Try.underlying31 inf36 rfl rfl (Refs.isE hr (by omega)) (by omega) (by omega)) ?_  -- 15.2: t101 := indexAddr
          refine ER.sil rfl rfl rfl rfl (Sil.fieldAddr Try.underlying36 rfl inf3 rfl) ?_  -- 15.3: t102 := fieldAddr
          refine ER.ex rfl rfl rfl rfl (Exa.load flat3 rfl ((hr.ext h20).mod hlt)) ?_  -- 15.4: t103 := load
          refine ER.sil rfl rfl rfl rfl (Sil.move rfl) ?_  -- 15.5: t104 := move
          refine ER.sil rfl rfl rfl rfl (Sil.move rfl) ?_  -- 15.6: t105 := move
          refine ER.sil rfl rfl rfl rfl (Sil.indexR Try.underlying33 inf28 rfl rfl (Pairs.isE hy (by omega)) (by omega) (by omega)) ?_  -- 15.7: t106 := indexAddr
          refine ER.ex rfl rfl rfl rfl (Exa.load flat28 rfl (cell_ext h20 hyc)) ?_  -- 15.8: t107 := load
          refine ER.sil rfl rfl rfl rfl (Sil.indexAddr Try.underlying28 inf3 rfl rfl (by omega) (by omega)) ?_  -- 15.9: t108 := indexAddr
          refine ER.ex rfl rfl rfl rfl (Exa.load flat3 rfl ((hyr.ext h20).cell rfl)) ?_  -- 15.10: t109 := load
          refine ER.sil rfl rfl rfl rfl (Sil.neq rfl rfl) ?_  -- 15.11: t110 := binOp
          rw [bne_self_eq_false]
          refine ER.sil rfl rfl rfl rfl (Sil.move rfl) ?_  -- 15.12: t111 := move
          refine ER.silD rfl rfl rfl rfl (rfl) rfl rfl (Sil.move rfl) ?_  -- 15.13: t112 := move
          refine ER.silD rfl rfl rfl rfl (rfl) rfl rfl (Sil.move rfl) ?_  -- 15.14: t113 := move
          refine ER.silD rfl rfl rfl rfl (rfl) rfl rfl (Sil.indexR Try.underlying31 inf36 rfl rfl (Refs.isE hr (by omega)) (by omega) (by omega)) ?_  -- 15.15: t114 := indexAddr
          refine ER.silD rfl rfl rfl rfl (rfl) rfl rfl (Sil.fieldAddr Try.underlying36 rfl inf3 rfl) ?_  -- 15.16: t115 := fieldAddr
          refine ER.exD rfl rfl rfl rfl (rfl) rfl rfl (Exa.load flat3 rfl ((hr.ext h20).why hlt)) ?_  -- 15.17: t116 := load
          refine ER.silD rfl rfl rfl rfl (rfl) rfl rfl (Sil.move rfl) ?_  -- 15.18: t117 := move
          refine ER.silD rfl rfl rfl rfl (rfl) rfl rfl (Sil.move rfl) ?_  -- 15.19: t118 := move
          refine ER.silD rfl rfl rfl rfl (rfl) rfl rfl (Sil.indexR Try.underlying33 inf28 rfl rfl (Pairs.isE hy (by omega)) (by omega) (by omega)) ?_  -- 15.20: t119 := indexAddr
          refine ER.exD rfl rfl rfl rfl (rfl) rfl rfl (Exa.load flat28 rfl (cell_ext h20 hyc)) ?_  -- 15.21: t120 := load
          refine ER.silD rfl rfl rfl rfl (rfl) rfl rfl (Sil.indexAddr Try.underlying28 inf3 rfl rfl (by omega) (by omega)) ?_  -- 15.22: t121 := indexAddr
          refine ER.exD rfl rfl rfl rfl (rfl) rfl rfl (Exa.load flat3 rfl ((hyr.ext h20).cell rfl)) ?_  -- 15.23: t122 := load
          refine ER.silD rfl rfl rfl rfl (rfl) rfl rfl (Sil.neq rfl rfl) ?_  -- 15.24: t123 := binOp
          rw [bne_self_eq_false]
          refine ER.sil rfl rfl rfl rfl (Sil.pick rfl rfl rfl) ?_  -- 15.25: t124 := pick
          refine ER.nil (fun w21 h21 => ?_)
          refine AQ.then ?_
          refine EC.cond rfl (fun hb4 => ?_) (fun hb4 => ?_)  -- cond 4: t124
          ·
            cases hb4
          ·
            refine EC.skip ?_
            refine AQ.blockNormal ?_
            refine AQ.then ?_
            -- region 14  law.go:67
            refine EC.region (fun i => [1, 1, 1].getD i 0) [0, 1, 2] rfl ?_
            refine ER.sil rfl rfl rfl rfl (Sil.move rfl) ?_  -- 14.0: t97 := move
            refine ER.sil rfl rfl rfl rfl (Sil.add rfl rfl) ?_  -- 14.1: t98 := binOp
            refine ER.sil rfl rfl rfl rfl (Sil.assign rfl) ?_  -- 14.2: t20 := assign
            refine ER.nil (fun w22 h22 => ?_)
            exact AQ.round (k + 1) [11, 18, 19, 20] (by rw [← wrap_succ hlt hrm]; rfl) ⟨(((hE.trans h20).trans h21).trans h22), hr.ext ((h20.trans h21).trans h22), hy.ext ((h20.trans h21).trans h22), hlt⟩ (by omega)
        ·
          refine EC.exit ?_
          refine AQ.thenExit ?_
          refine AQ.thenExit ?_
          refine AQ.blockHit ?_
          refine AQ.then ?_
          refine EC.seq ?_
          -- region 17  law.go:72
          refine EC.region (fun i => [1, 1].getD i 0) [0, 1] rfl ?_
          refine ER.sil rfl rfl rfl rfl (Sil.move rfl) ?_  -- 17.0: t125 := move
          refine ER.sil rfl rfl rfl rfl (Sil.assign rfl) ?_  -- 17.1: t10 := assign
          refine ER.nil (fun w23 h23 => ?_)
          refine AQ.then ?_
          refine EC.ret ?_
          refine AQ.ret1 Try.results3 rfl ?_
          exact ⟨rfl, ((hE.trans h20).trans h23)⟩

end Go.Proofs.Ytgagjmapjdeknaa
