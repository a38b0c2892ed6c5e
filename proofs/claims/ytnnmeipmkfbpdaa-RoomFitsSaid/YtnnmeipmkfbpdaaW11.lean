/- Room: one, small. -/
import Derived.Test.YtnnmeipmkfbpdaaW10
import Derived.Test.YtnnmeipmkfbpdaaLaws
namespace Go.Proofs.Ytnnmeipmkfbpdaa
open Go.RowKit Go.XK Go.RoomLaw

theorem ret_b {a b : Bool} (h : a = b) : Ending.returned (Value.bool a) = .returned (.bool b) := by rw [h]

-- linchpin/linchpinlaw04.one: parameters ['int'] (free 0), results [('ResultVar.cell', 2, 24)], 5 slots
theorem one_any (a : Int) (w : World) :
    Calls Try.prog 24 [.int .i64 a].toArray w fun e w' => e = .returned (spV (a, 1)) ∧ Ext w w' := by
  refine calls_of Try.func24 rfl Try.ntmps24 rfl ?_
  refine EC.seq ?_
  -- region 0  law.go:36
  refine EC.region (fun i => [2].getD i 0) [0] rfl ?_
  refine ER.st rfl rfl rfl rfl (fun w1 h1 => Stp.alloc inf24 (fun w2 h2 s2 r2 => ⟨h2, ?_⟩))  -- 0.0: t2 := alloc
  refine ER.nil (fun w3 h3 => ?_)
  refine AQ.then ?_
  refine EC.seq ?_
  -- region 1  law.go:36
  refine EC.region (fun i => [1, 1, 3].getD i 0) [0, 1, 2] rfl ?_
  refine ER.sil rfl rfl rfl rfl (Sil.move rfl) ?_  -- 1.0: t3 := move
  refine ER.sil rfl rfl rfl rfl (Sil.build rfl rfl) ?_  -- 1.1: t4 := build
  refine ER.bar rfl rfl rfl rfl (fun w4 h4 => Stp.store (by kernel_rfl) rfl rfl (r2.ext (h3.trans h4)) rfl rfl (fun w5 u5 r5 => ?_))  -- 1.2: tNone := store
  have e5 := (((h1.trans h2).trans h3).trans h4).upd u5 h1.size
  refine ER.nil (fun w6 h6 => ?_)
  refine AQ.then ?_
  refine EC.ret ?_
  refine AQ.retC Try.results24 rfl (r5.ext h6) agg24 ?_
  exact ⟨rfl, (e5.trans h6)⟩

-- linchpin/linchpinlaw04.small: parameters [] (free 0), results [('ResultVar.tmp', 0)], 75 slots
theorem small_any (w : World) :
    Calls Try.prog 8 [].toArray w fun e w' => e = .returned (.bool true) ∧ Ext w w' := by
  refine calls_of Try.func8 rfl Try.ntmps8 rfl ?_
  refine EC.seq ?_
  -- region 0  law.go:11
  refine EC.region (fun i => [1].getD i 0) [0] rfl ?_
  refine ER.sil rfl rfl rfl rfl (Sil.assign rfl) ?_  -- 0.0: t0 := assign
  refine ER.nil (fun w1 h1 => ?_)
  refine AQ.then ?_
  refine EC.seq ?_
  -- region 1  law.go:12
  refine EC.region (fun i => [1, 1, 2, 1].getD i 0) [0, 1, 2, 3] rfl ?_
  refine ER.sil rfl rfl rfl rfl (Sil.build rfl rfl) ?_  -- 1.0: t10 := build
  refine ER.sil rfl rfl rfl rfl (Sil.build rfl rfl) ?_  -- 1.1: t11 := build
  refine ER.st rfl rfl rfl rfl (fun w2 h2 => Stp.buildAll [_, _] Try.underlying22 inf24 rfl rfl rfl rfl rfl rfl (fun w3 h3 s3 r3 => ⟨h3, ?_⟩))  -- 1.2: t12 := buildSlice
  refine ER.sil rfl rfl rfl rfl (Sil.assign rfl) ?_  -- 1.3: t1 := assign
  refine ER.nil (fun w4 h4 => ?_)
  refine AQ.then ?_
  refine EC.seq ?_
  -- region 2  law.go:13
  refine EC.region (fun i => [1, 1, 2, 1].getD i 0) [0, 1, 2, 3] rfl ?_
  refine ER.sil rfl rfl rfl rfl (Sil.move rfl) ?_  -- 2.0: t13 := move
  refine ER.sil rfl rfl rfl rfl (Sil.build rfl rfl) ?_  -- 2.1: t14 := build
  refine ER.st rfl rfl rfl rfl (fun w5 h5 => Stp.call fok12 rfl rfl (Calls.mono ((add_any [((0 : Int), (10 : Int)), (20, 10)] _ (10, 10) w5 (Reads.of_row ((r3.ext h4).ext h5) rfl (by decide)) (by decide))) ?_))  -- 2.2: t15 := call
  rintro _ w6 ⟨v6, rfl, h6, pa6⟩
  refine ⟨v6, rfl, h6, ?_⟩
  refine ER.sil rfl rfl rfl rfl (Sil.assign rfl) ?_  -- 2.3: t2 := assign
  refine ER.nil (fun w7 h7 => ?_)
  refine AQ.then ?_
  refine EC.seq ?_
  -- region 3  law.go:14
  refine EC.region (fun i => [1, 1, 2, 1].getD i 0) [0, 1, 2, 3] rfl ?_
  refine ER.sil rfl rfl rfl rfl (Sil.move rfl) ?_  -- 3.0: t16 := move
  refine ER.sil rfl rfl rfl rfl (Sil.build rfl rfl) ?_  -- 3.1: t17 := build
  refine ER.st rfl rfl rfl rfl (fun w8 h8 => Stp.call fok14 rfl rfl (Calls.mono ((cut_any (addB [((0 : Int), (10 : Int)), (20, 10)] (10, 10)) _ (10, 10) w8 ((Spans.of_own (Ext.own pa6 h7)).ext h8) (by decide))) ?_))  -- 3.2: t18 := call
  rintro _ w9 ⟨v9, rfl, h9, pb9⟩
  refine ⟨v9, rfl, h9, ?_⟩
  refine ER.sil rfl rfl rfl rfl (Sil.assign rfl) ?_  -- 3.3: t3 := assign
  refine ER.nil (fun w10 h10 => ?_)
  refine AQ.then ?_
  refine EC.seq ?_
  -- region 4  law.go:15
  refine EC.region (fun i => [1, 1, 2, 0, 1].getD i 0) [0, 1, 2, 3, 4] rfl ?_
  refine ER.sil rfl rfl rfl rfl (Sil.move rfl) ?_  -- 4.0: t19 := move
  refine ER.sil rfl rfl rfl rfl (Sil.build rfl rfl) ?_  -- 4.1: t20 := build
  refine ER.st rfl rfl rfl rfl (fun w11 h11 => Stp.buildAll [_] Try.underlying22 inf24 rfl rfl rfl rfl rfl rfl (fun w12 h12 s12 r12 => ⟨h12, ?_⟩))  -- 4.2: t21 := buildSlice
  refine ER.ex rfl rfl rfl rfl (Exa.call fok11 rfl rfl (fun wx hx => (refSame_any (addB [((0 : Int), (10 : Int)), (20, 10)] (10, 10)) [(0, 30)] _ _ wx ((Spans.of_own (Ext.own pa6 (((((h7.trans h8).trans h9).trans h10).trans h11).trans h12))).ext hx) (Reads.of_row (r12.ext hx) rfl (by decide))))) ?_  -- 4.3: t22 := call
  refine ER.sil rfl rfl rfl rfl (Sil.assign rfl) ?_  -- 4.4: t4 := assign
  refine ER.nil (fun w13 h13 => ?_)
  refine AQ.then ?_
  refine EC.seq ?_
  -- region 5  law.go:16
  refine EC.region (fun i => [1, 1, 0, 1].getD i 0) [0, 1, 2, 3] rfl ?_
  refine ER.sil rfl rfl rfl rfl (Sil.move rfl) ?_  -- 5.0: t23 := move
  refine ER.sil rfl rfl rfl rfl (Sil.move rfl) ?_  -- 5.1: t24 := move
  refine ER.ex rfl rfl rfl rfl (Exa.call fok11 rfl rfl (fun wx hx => (refSame_any (cutB (addB [((0 : Int), (10 : Int)), (20, 10)] (10, 10)) (10, 10)) [((0 : Int), (10 : Int)), (20, 10)] _ _ wx ((Spans.of_own (Ext.own pb9 (((h10.trans h11).trans h12).trans h13))).ext hx) (Reads.of_row ((r3.ext (((((((((h4.trans h5).trans h6).trans h7).trans h8).trans h9).trans h10).trans h11).trans h12).trans h13)).ext hx) rfl (by decide))))) ?_  -- 5.2: t25 := call
  refine ER.sil rfl rfl rfl rfl (Sil.assign rfl) ?_  -- 5.3: t5 := assign
  refine ER.nil (fun w14 h14 => ?_)
  refine AQ.then ?_
  refine EC.seq ?_
  -- region 6  law.go:17
  refine EC.region (fun i => [1, 1, 2, 0, 1, 1, 1, 1, 1].getD i 0) [0, 1, 2, 3, 4, 5, 6, 7, 8] rfl ?_
  refine ER.sil rfl rfl rfl rfl (Sil.build rfl rfl) ?_  -- 6.0: t27 := build
  refine ER.sil rfl rfl rfl rfl (Sil.build rfl rfl) ?_  -- 6.1: t28 := build
  refine ER.st rfl rfl rfl rfl (fun w15 h15 => Stp.buildAll [_, _] Try.underlying22 inf24 rfl rfl rfl rfl rfl rfl (fun w16 h16 s16 r16 => ⟨h16, ?_⟩))  -- 6.2: t29 := buildSlice
  refine ER.ex rfl rfl rfl rfl (Exa.call fok9 rfl rfl (fun wx hx => (fit_any [((3 : Int), (7 : Int)), (16, 24)] _ wx (Reads.of_row (r16.ext hx) rfl (by decide)) 8 8 0 40))) ?_  -- 6.3: t30 := call
  refine ER.sil rfl rfl rfl rfl (Sil.move rfl) ?_  -- 6.4: t26 := move
  refine ER.sil rfl rfl rfl rfl (Sil.extract rfl rfl) ?_  -- 6.5: t31 := extract
  refine ER.sil rfl rfl rfl rfl (Sil.extract rfl rfl) ?_  -- 6.6: t32 := extract
  refine ER.sil rfl rfl rfl rfl (Sil.assign rfl) ?_  -- 6.7: t6 := assign
  refine ER.sil rfl rfl rfl rfl (Sil.assign rfl) ?_  -- 6.8: t7 := assign
  refine ER.nil (fun w17 h17 => ?_)
  refine AQ.then ?_
  refine EC.seq ?_
  -- region 7  law.go:18
  refine EC.region (fun i => [1, 1, 2, 0, 1, 1, 1, 1, 1].getD i 0) [0, 1, 2, 3, 4, 5, 6, 7, 8] rfl ?_
  refine ER.sil rfl rfl rfl rfl (Sil.build rfl rfl) ?_  -- 7.0: t34 := build
  refine ER.sil rfl rfl rfl rfl (Sil.build rfl rfl) ?_  -- 7.1: t35 := build
  refine ER.st rfl rfl rfl rfl (fun w18 h18 => Stp.buildAll [_, _] Try.underlying22 inf24 rfl rfl rfl rfl rfl rfl (fun w19 h19 s19 r19 => ⟨h19, ?_⟩))  -- 7.2: t36 := buildSlice
  refine ER.ex rfl rfl rfl rfl (Exa.call fok9 rfl rfl (fun wx hx => (fit_any [((3 : Int), (7 : Int)), (16, 24)] _ wx (Reads.of_row (r19.ext hx) rfl (by decide)) 8 8 0 23))) ?_  -- 7.3: t37 := call
  refine ER.sil rfl rfl rfl rfl (Sil.move rfl) ?_  -- 7.4: t33 := move
  refine ER.sil rfl rfl rfl rfl (Sil.extract rfl rfl) ?_  -- 7.5: t38 := extract
  refine ER.sil rfl rfl rfl rfl (Sil.extract rfl rfl) ?_  -- 7.6: t39 := extract
  refine ER.sil rfl rfl rfl rfl (Sil.assign rfl) ?_  -- 7.7: t8 := assign
  refine ER.sil rfl rfl rfl rfl (Sil.assign rfl) ?_  -- 7.8: t9 := assign
  refine ER.nil (fun w20 h20 => ?_)
  refine AQ.then ?_
  refine EC.seq ?_
  -- region 8  law.go:19
  refine EC.region (fun i => [1, 1, 1, 1, 1, 1, 0, 1, 1, 1, 1, 0, 1, 1, 1, 1, 1, 0, 1, 1, 1, 1, 1, 1, 1, 1, 1, 1, 1, 1, 1, 1, 0, 1, 1, 1].getD i 0) [0, 1, 2, 3, 4, 5, 6, 7, 8, 9, 10, 11, 12, 13, 14, 15, 16, 17, 18, 19, 20, 21, 22, 23, 24, 25, 26, 27, 28, 29, 30, 31, 32, 33, 34, 35] rfl ?_
  refine ER.sil rfl rfl rfl rfl (Sil.move rfl) ?_  -- 8.0: t40 := move
  refine ER.sil rfl rfl rfl rfl (Sil.move rfl) ?_  -- 8.1: t41 := move
  refine ER.silG rfl rfl rfl rfl rfl rfl (fun hc => Sil.move rfl) ?_  -- 8.2: t42 := move
  refine ER.sil rfl rfl rfl rfl (Sil.pickAnd rfl rfl rfl) ?_  -- 8.3: t43 := pick
  refine ER.sil rfl rfl rfl rfl (Sil.move rfl) ?_  -- 8.4: t44 := move
  refine ER.silG rfl rfl rfl rfl rfl rfl (fun hc => Sil.move rfl) ?_  -- 8.5: t45 := move
  refine ER.exG rfl rfl rfl rfl rfl rfl (fun hc => Exa.call fok16 rfl (evs_cons (congrArg some (sel_eq hc _)) evs_nil) (fun wx hx => (right_any [((0 : Int), (10 : Int)), (20, 10)] _ wx (Reads.of_row ((r3.ext ((((((((((((((((h4.trans h5).trans h6).trans h7).trans h8).trans h9).trans h10).trans h11).trans h12).trans h13).trans h14).trans h15).trans h16).trans h17).trans h18).trans h19).trans h20)).ext hx) rfl (by decide))))) ?_  -- 8.6: t46 := call
  refine ER.sil rfl rfl rfl rfl (Sil.pickAnd rfl rfl rfl) ?_  -- 8.7: t47 := pick
  refine ER.sil rfl rfl rfl rfl (Sil.move rfl) ?_  -- 8.8: t48 := move
  refine ER.silG rfl rfl rfl rfl rfl rfl (fun hc => Sil.move rfl) ?_  -- 8.9: t49 := move
  refine ER.silG rfl rfl rfl rfl rfl rfl (fun hc => Sil.build rfl rfl) ?_  -- 8.10: t50 := build
  refine ER.exG rfl rfl rfl rfl rfl rfl (fun hc => Exa.call fok20 rfl (evs_cons (congrArg some (sel_eq hc _)) (evs_cons (congrArg some (sel_eq hc _)) evs_nil)) (fun wx hx => (has_any [((0 : Int), (10 : Int)), (20, 10)] _ (5, 20) wx (Reads.of_row ((r3.ext ((((((((((((((((h4.trans h5).trans h6).trans h7).trans h8).trans h9).trans h10).trans h11).trans h12).trans h13).trans h14).trans h15).trans h16).trans h17).trans h18).trans h19).trans h20)).ext hx) rfl (by decide))))) ?_  -- 8.11: t51 := call
  refine ER.silG rfl rfl rfl rfl rfl rfl (fun hc => Sil.not (congrArg some (sel_eq hc _))) ?_  -- 8.12: t52 := unOp
  refine ER.sil rfl rfl rfl rfl (Sil.pickAnd rfl rfl rfl) ?_  -- 8.13: t53 := pick
  refine ER.sil rfl rfl rfl rfl (Sil.move rfl) ?_  -- 8.14: t54 := move
  refine ER.silG rfl rfl rfl rfl rfl rfl (fun hc => Sil.move rfl) ?_  -- 8.15: t55 := move
  refine ER.silG rfl rfl rfl rfl rfl rfl (fun hc => Sil.build rfl rfl) ?_  -- 8.16: t56 := build
  refine ER.exG rfl rfl rfl rfl rfl rfl (fun hc => Exa.call fok22 rfl (evs_cons (congrArg some (sel_eq hc _)) (evs_cons (congrArg some (sel_eq hc _)) evs_nil)) (fun wx hx => (meets_any [((0 : Int), (10 : Int)), (20, 10)] _ (5, 20) wx (Reads.of_row ((r3.ext ((((((((((((((((h4.trans h5).trans h6).trans h7).trans h8).trans h9).trans h10).trans h11).trans h12).trans h13).trans h14).trans h15).trans h16).trans h17).trans h18).trans h19).trans h20)).ext hx) rfl (by decide))))) ?_  -- 8.17: t57 := call
  refine ER.sil rfl rfl rfl rfl (Sil.pickAnd rfl rfl rfl) ?_  -- 8.18: t58 := pick
  refine ER.sil rfl rfl rfl rfl (Sil.move rfl) ?_  -- 8.19: t59 := move
  refine ER.silG rfl rfl rfl rfl rfl rfl (fun hc => Sil.move rfl) ?_  -- 8.20: t60 := move
  refine ER.sil rfl rfl rfl rfl (Sil.pickAnd rfl rfl rfl) ?_  -- 8.21: t61 := pick
  refine ER.sil rfl rfl rfl rfl (Sil.move rfl) ?_  -- 8.22: t62 := move
  refine ER.silG rfl rfl rfl rfl rfl rfl (fun hc => Sil.move rfl) ?_  -- 8.23: t63 := move
  refine ER.silG rfl rfl rfl rfl rfl rfl (fun hc => Sil.eql (congrArg some (sel_eq hc _)) rfl) ?_  -- 8.24: t64 := binOp
  refine ER.sil rfl rfl rfl rfl (Sil.pickAnd rfl rfl rfl) ?_  -- 8.25: t65 := pick
  refine ER.sil rfl rfl rfl rfl (Sil.move rfl) ?_  -- 8.26: t66 := move
  refine ER.silG rfl rfl rfl rfl rfl rfl (fun hc => Sil.move rfl) ?_  -- 8.27: t67 := move
  refine ER.silG rfl rfl rfl rfl rfl rfl (fun hc => Sil.not (congrArg some (sel_eq hc _))) ?_  -- 8.28: t68 := unOp
  refine ER.sil rfl rfl rfl rfl (Sil.pickAnd rfl rfl rfl) ?_  -- 8.29: t69 := pick
  refine ER.sil rfl rfl rfl rfl (Sil.move rfl) ?_  -- 8.30: t70 := move
  refine ER.silG rfl rfl rfl rfl rfl rfl (fun hc => Sil.move rfl) ?_  -- 8.31: t71 := move
  refine ER.exG rfl rfl rfl rfl rfl rfl (fun hc => Exa.call fok18 rfl (evs_cons (congrArg some (sel_eq hc _)) evs_nil) (fun wx hx => (total_any [((0 : Int), (10 : Int)), (20, 10)] _ wx (Reads.of_row ((r3.ext ((((((((((((((((h4.trans h5).trans h6).trans h7).trans h8).trans h9).trans h10).trans h11).trans h12).trans h13).trans h14).trans h15).trans h16).trans h17).trans h18).trans h19).trans h20)).ext hx) rfl (by decide))))) ?_  -- 8.32: t72 := call
  refine ER.silG rfl rfl rfl rfl rfl rfl (fun hc => Sil.eql (congrArg some (sel_eq hc _)) rfl) ?_  -- 8.33: t73 := binOp
  refine ER.sil rfl rfl rfl rfl (Sil.pickAnd rfl rfl rfl) ?_  -- 8.34: t74 := pick
  refine ER.sil rfl rfl rfl rfl (Sil.assign rfl) ?_  -- 8.35: t0 := assign
  refine ER.nil (fun w21 h21 => ?_)
  refine AQ.then ?_
  refine EC.ret ?_
  refine AQ.ret1 Try.results8 rfl ?_
  exact ⟨ret_b (by decide), ((((((((((((((((((((h1.trans h2).trans h3).trans h4).trans h5).trans h6).trans h7).trans h8).trans h9).trans h10).trans h11).trans h12).trans h13).trans h14).trans h15).trans h16).trans h17).trans h18).trans h19).trans h20).trans h21)⟩

end Go.Proofs.Ytnnmeipmkfbpdaa
