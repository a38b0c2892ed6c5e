/- Room: three laws. -/
import Derived.Test.YtnnmeipmkfbpdaaW11
namespace Go.Proofs.Ytnnmeipmkfbpdaa
open Go.RowKit Go.XK Go.RoomLaw

theorem countsBad_len {l : List Sp} {s : Sp} (h : countsBad l s = false) : l.length ≤ 40 := by
  simp only [countsBad, Bool.or_eq_false_iff] at h
  have := of_decide_eq_false h.1.1.1.1.1
  omega
theorem setsBad_len {l : List Sp} {s : Sp} {a : Int} (h : setsBad l s a = false) : l.length ≤ 40 := by
  simp only [setsBad, Bool.or_eq_false_iff] at h
  exact countsBad_len h.1.1

-- linchpin/linchpinlaw04.RoomTells: parameters ['[]api.Span', 'api.Span', 'int', 'int', 'int', 'int'] (free 0), results [('ResultVar.tmp', 12)], 106 slots
theorem tells_any (l : List Sp) (v : Value) (s : Sp) (size align from_ until_ : Int) (w : World) (hl : Spans w v l) :
    Calls Try.prog 3 [v, spV s, .int .i64 size, .int .i64 align, .int .i64 from_, .int .i64 until_].toArray w fun e w' => e = .returned (.bool (lawTells l s size align from_ until_)) ∧ Ext w w' := by
  refine calls_of Try.func3 rfl Try.ntmps3 rfl ?_
  refine EC.seq ?_
  -- region 0  law.go:23
  refine EC.region (fun i => [2, 1].getD i 0) [0, 1] rfl ?_
  refine ER.st rfl rfl rfl rfl (fun w1 h1 => Stp.box rfl (fun w2 h2 s2 r2 => ⟨h2, ?_⟩))  -- 0.0: t7 := box
  refine ER.sil rfl rfl rfl rfl (Sil.assign rfl) ?_  -- 0.1: t12 := assign
  refine ER.nil (fun w3 h3 => ?_)
  refine AQ.then ?_
  refine EC.seq ?_
  -- region 1  law.go:24
  refine EC.region (fun i => [0, 1].getD i 0) [0, 1] rfl ?_
  refine ER.ex rfl rfl rfl rfl (Exa.call fok8 rfl rfl (fun wx hx => (small_any wx))) ?_  -- 1.0: t20 := call
  refine ER.sil rfl rfl rfl rfl (Sil.assign rfl) ?_  -- 1.1: t13 := assign
  refine ER.nil (fun w4 h4 => ?_)
  refine AQ.then ?_
  refine EC.seq ?_
  refine EC.seq ?_
  -- region 2  law.go:25
  refine EC.region (fun i => [1, 1, 1].getD i 0) [0, 1, 2] rfl ?_
  refine ER.sil rfl rfl rfl rfl (Sil.move rfl) ?_  -- 2.0: t21 := move
  refine ER.sil rfl rfl rfl rfl (Sil.lenR Try.underlying22 rfl (Reads.isS hl)) ?_  -- 2.1: t22 := call
  refine ER.sil rfl rfl rfl rfl (Sil.gtr rfl rfl) ?_  -- 2.2: t23 := binOp
  refine ER.nil (fun w5 h5 => ?_)
  refine AQ.then ?_
  refine EC.cond rfl (fun hb0 => ?_) (fun hb0 => ?_)  -- cond 0: t23
  ·
    refine EC.seq ?_
    -- region 3  law.go:26
    refine EC.region (fun i => [1, 1].getD i 0) [0, 1] rfl ?_
    refine ER.sil rfl rfl rfl rfl (Sil.move rfl) ?_  -- 3.0: t24 := move
    refine ER.sil rfl rfl rfl rfl (Sil.assign rfl) ?_  -- 3.1: t12 := assign
    refine ER.nil (fun w6 h6 => ?_)
    refine AQ.then ?_
    refine EC.ret ?_
    refine AQ.thenRet ?_
    refine AQ.ret1 Try.results3 rfl ?_
    exact ⟨ret_b (show true = lawTells l s size align from_ until_ by rw [lawTells, hb0]; rfl), (((((h1.trans h2).trans h3).trans h4).trans h5).trans h6)⟩
  ·
    have hn : l.length ≤ 40 := by have := of_decide_eq_false hb0; omega
    refine EC.skip ?_
    refine AQ.then ?_
    refine EC.seq ?_
    -- region 4  law.go:28
    refine EC.region (fun i => [1, 1, 1, 1, 1, 0, 1, 1, 1, 1, 1].getD i 0) [0, 1, 2, 3, 4, 5, 6, 7, 8, 9, 10] rfl ?_
    refine ER.sil rfl rfl rfl rfl (Sil.move rfl) ?_  -- 4.0: t26 := move
    refine ER.sil rfl rfl rfl rfl (Sil.move rfl) ?_  -- 4.1: t27 := move
    refine ER.sil rfl rfl rfl rfl (Sil.move rfl) ?_  -- 4.2: t28 := move
    refine ER.sil rfl rfl rfl rfl (Sil.move rfl) ?_  -- 4.3: t29 := move
    refine ER.sil rfl rfl rfl rfl (Sil.move rfl) ?_  -- 4.4: t30 := move
    refine ER.ex rfl rfl rfl rfl (Exa.call fok9 rfl rfl (fun wx hx => (fit_any l v wx (hl.ext (((((h1.trans h2).trans h3).trans h4).trans h5).trans hx)) size align from_ until_))) ?_  -- 4.5: t31 := call
    refine ER.sil rfl rfl rfl rfl (Sil.move rfl) ?_  -- 4.6: t25 := move
    refine ER.sil rfl rfl rfl rfl (Sil.extract rfl rfl) ?_  -- 4.7: t32 := extract
    refine ER.sil rfl rfl rfl rfl (Sil.extract rfl rfl) ?_  -- 4.8: t33 := extract
    refine ER.sil rfl rfl rfl rfl (Sil.assign rfl) ?_  -- 4.9: t14 := assign
    refine ER.sil rfl rfl rfl rfl (Sil.assign rfl) ?_  -- 4.10: t15 := assign
    refine ER.nil (fun w7 h7 => ?_)
    refine AQ.then ?_
    refine EC.seq ?_
    -- region 5  law.go:29
    refine EC.region (fun i => [1, 1, 1, 1, 1, 0, 1, 1, 1, 1, 1].getD i 0) [0, 1, 2, 3, 4, 5, 6, 7, 8, 9, 10] rfl ?_
    refine ER.sil rfl rfl rfl rfl (Sil.move rfl) ?_  -- 5.0: t35 := move
    refine ER.sil rfl rfl rfl rfl (Sil.move rfl) ?_  -- 5.1: t36 := move
    refine ER.sil rfl rfl rfl rfl (Sil.move rfl) ?_  -- 5.2: t37 := move
    refine ER.sil rfl rfl rfl rfl (Sil.move rfl) ?_  -- 5.3: t38 := move
    refine ER.sil rfl rfl rfl rfl (Sil.move rfl) ?_  -- 5.4: t39 := move
    refine ER.ex rfl rfl rfl rfl (Exa.call fok10 rfl rfl (fun wx hx => (refFit_any l v wx (hl.ext ((((((h1.trans h2).trans h3).trans h4).trans h5).trans h7).trans hx)) size align from_ until_))) ?_  -- 5.5: t40 := call
    refine ER.sil rfl rfl rfl rfl (Sil.move rfl) ?_  -- 5.6: t34 := move
    refine ER.sil rfl rfl rfl rfl (Sil.extract rfl rfl) ?_  -- 5.7: t41 := extract
    refine ER.sil rfl rfl rfl rfl (Sil.extract rfl rfl) ?_  -- 5.8: t42 := extract
    refine ER.sil rfl rfl rfl rfl (Sil.assign rfl) ?_  -- 5.9: t16 := assign
    refine ER.sil rfl rfl rfl rfl (Sil.assign rfl) ?_  -- 5.10: t17 := assign
    refine ER.nil (fun w8 h8 => ?_)
    refine AQ.then ?_
    refine EC.seq ?_
    -- region 6  law.go:30
    refine EC.draw (fun i => [1, 0, 2, 1, 0, 2, 0, 1].getD i 0) [0, 1, 3, 4, 2, 5, 6, 7] (by kernel_rfl) (by kernel_rfl) ?_
    refine ER.sil rfl rfl rfl rfl (Sil.move rfl) ?_  -- 6.0: t43 := move
    refine ER.ex rfl rfl rfl rfl (Exa.loadAgg (vs := spC s) agg24 rfl ((r2.ext ((((h3.trans h4).trans h5).trans h7).trans h8)).at)) ?_  -- 6.1: t44 := load
    refine ER.sil rfl rfl rfl rfl (Sil.move rfl) ?_  -- 6.3: t46 := move
    refine ER.ex rfl rfl rfl rfl (Exa.loadAgg (vs := spC s) agg24 rfl ((r2.ext ((((h3.trans h4).trans h5).trans h7).trans h8)).at)) ?_  -- 6.4: t47 := load
    refine ER.st rfl rfl rfl rfl (fun w9 h9 => Stp.call fok12 rfl rfl (Calls.mono ((add_any l v s w9 (hl.ext (((((((h1.trans h2).trans h3).trans h4).trans h5).trans h7).trans h8).trans h9)) (by omega))) ?_))  -- 6.2: t45 := call
    rintro _ w10 ⟨v10, rfl, h10, pa10⟩
    refine ⟨v10, rfl, h10, ?_⟩
    refine ER.st rfl rfl rfl rfl (fun w11 h11 => Stp.call fok13 rfl rfl (Calls.mono ((refAdd_any l v s w11 (hl.ext (((((((((h1.trans h2).trans h3).trans h4).trans h5).trans h7).trans h8).trans h9).trans h10).trans h11)) (by omega))) ?_))  -- 6.5: t48 := call
    rintro _ w12 ⟨v12, rfl, h12, pb12⟩
    refine ⟨v12, rfl, h12, ?_⟩
    refine ER.ex rfl rfl rfl rfl (Exa.call fok11 rfl rfl (fun wx hx => (refSame_any (addB l s) (refAddB l s) _ _ wx ((Spans.of_own (Ext.own pa10 (h11.trans h12))).ext hx) ((Spans.of_own pb12).ext hx)))) ?_  -- 6.6: t49 := call
    refine ER.sil rfl rfl rfl rfl (Sil.assign rfl) ?_  -- 6.7: t18 := assign
    refine ER.nil (fun w13 h13 => ?_)
    refine AQ.then ?_
    refine EC.seq ?_
    -- region 7  law.go:31
    refine EC.draw (fun i => [1, 0, 2, 1, 0, 2, 0, 1].getD i 0) [0, 1, 3, 4, 2, 5, 6, 7] (by kernel_rfl) (by kernel_rfl) ?_
    refine ER.sil rfl rfl rfl rfl (Sil.move rfl) ?_  -- 7.0: t50 := move
    refine ER.ex rfl rfl rfl rfl (Exa.loadAgg (vs := spC s) agg24 rfl ((r2.ext (((((((((h3.trans h4).trans h5).trans h7).trans h8).trans h9).trans h10).trans h11).trans h12).trans h13)).at)) ?_  -- 7.1: t51 := load
    refine ER.sil rfl rfl rfl rfl (Sil.move rfl) ?_  -- 7.3: t53 := move
    refine ER.ex rfl rfl rfl rfl (Exa.loadAgg (vs := spC s) agg24 rfl ((r2.ext (((((((((h3.trans h4).trans h5).trans h7).trans h8).trans h9).trans h10).trans h11).trans h12).trans h13)).at)) ?_  -- 7.4: t54 := load
    refine ER.st rfl rfl rfl rfl (fun w14 h14 => Stp.call fok14 rfl rfl (Calls.mono ((cut_any l v s w14 (hl.ext ((((((((((((h1.trans h2).trans h3).trans h4).trans h5).trans h7).trans h8).trans h9).trans h10).trans h11).trans h12).trans h13).trans h14)) (by omega))) ?_))  -- 7.2: t52 := call
    rintro _ w15 ⟨v15, rfl, h15, pc15⟩
    refine ⟨v15, rfl, h15, ?_⟩
    refine ER.st rfl rfl rfl rfl (fun w16 h16 => Stp.call fok15 rfl rfl (Calls.mono ((refCut_any l v s w16 (hl.ext ((((((((((((((h1.trans h2).trans h3).trans h4).trans h5).trans h7).trans h8).trans h9).trans h10).trans h11).trans h12).trans h13).trans h14).trans h15).trans h16)) (by omega))) ?_))  -- 7.5: t55 := call
    rintro _ w17 ⟨v17, rfl, h17, pd17⟩
    refine ⟨v17, rfl, h17, ?_⟩
    refine ER.ex rfl rfl rfl rfl (Exa.call fok11 rfl rfl (fun wx hx => (refSame_any (cutB l s) (refCutB l s) _ _ wx ((Spans.of_own (Ext.own pc15 (h16.trans h17))).ext hx) ((Spans.of_own pd17).ext hx)))) ?_  -- 7.6: t56 := call
    refine ER.sil rfl rfl rfl rfl (Sil.assign rfl) ?_  -- 7.7: t19 := assign
    refine ER.nil (fun w18 h18 => ?_)
    refine AQ.then ?_
    refine EC.seq ?_
    -- region 8  law.go:32
    refine EC.draw (fun i => [1, 1, 1, 1, 1, 1, 1, 1, 1, 1, 1, 1, 1, 1, 1, 1, 1, 1, 1, 0, 1, 0, 1, 1, 1, 1, 0, 1, 0, 1, 1, 1, 1, 0, 0, 1, 0, 0, 1, 1, 1, 1, 0, 0, 1, 0, 0, 1, 1, 1].getD i 0) [0, 1, 2, 3, 4, 5, 6, 7, 8, 9, 10, 11, 12, 13, 14, 15, 16, 17, 18, 19, 20, 21, 22, 23, 24, 25, 26, 27, 28, 29, 30, 31, 32, 33, 34, 35, 36, 37, 38, 39, 40, 41, 42, 43, 44, 45, 46, 47, 48, 49] (by kernel_rfl) (by kernel_rfl) ?_
    refine ER.sil rfl rfl rfl rfl (Sil.move rfl) ?_  -- 8.0: t57 := move
    refine ER.sil rfl rfl rfl rfl (Sil.move rfl) ?_  -- 8.1: t58 := move
    refine ER.silG rfl rfl rfl rfl rfl rfl (fun hc => Sil.move rfl) ?_  -- 8.2: t59 := move
    refine ER.silG rfl rfl rfl rfl rfl rfl (fun hc => Sil.move rfl) ?_  -- 8.3: t60 := move
    refine ER.silG rfl rfl rfl rfl rfl rfl (fun hc => Sil.eql (congrArg some (sel_eq hc _)) (congrArg some (sel_eq hc _))) ?_  -- 8.4: t61 := binOp
    refine ER.sil rfl rfl rfl rfl (Sil.pickAnd rfl rfl rfl) ?_  -- 8.5: t62 := pick
    refine ER.sil rfl rfl rfl rfl (Sil.move rfl) ?_  -- 8.6: t63 := move
    refine ER.silG rfl rfl rfl rfl rfl rfl (fun hc => Sil.move rfl) ?_  -- 8.7: t64 := move
    refine ER.silG rfl rfl rfl rfl rfl rfl (fun hc => Sil.move rfl) ?_  -- 8.8: t65 := move
    refine ER.silG rfl rfl rfl rfl rfl rfl (fun hc => Sil.beql Try.underlying4 (congrArg some (sel_eq hc _)) (congrArg some (sel_eq hc _))) ?_  -- 8.9: t66 := binOp
    refine ER.sil rfl rfl rfl rfl (Sil.pickAnd rfl rfl rfl) ?_  -- 8.10: t67 := pick
    refine ER.sil rfl rfl rfl rfl (Sil.move rfl) ?_  -- 8.11: t68 := move
    refine ER.silG rfl rfl rfl rfl rfl rfl (fun hc => Sil.move rfl) ?_  -- 8.12: t69 := move
    refine ER.sil rfl rfl rfl rfl (Sil.pickAnd rfl rfl rfl) ?_  -- 8.13: t70 := pick
    refine ER.sil rfl rfl rfl rfl (Sil.move rfl) ?_  -- 8.14: t71 := move
    refine ER.silG rfl rfl rfl rfl rfl rfl (fun hc => Sil.move rfl) ?_  -- 8.15: t72 := move
    refine ER.sil rfl rfl rfl rfl (Sil.pickAnd rfl rfl rfl) ?_  -- 8.16: t73 := pick
    refine ER.sil rfl rfl rfl rfl (Sil.move rfl) ?_  -- 8.17: t74 := move
    refine ER.silG rfl rfl rfl rfl rfl rfl (fun hc => Sil.move rfl) ?_  -- 8.18: t75 := move
    refine ER.exG rfl rfl rfl rfl rfl rfl (fun hc => Exa.call fok16 rfl (evs_cons (congrArg some (sel_eq hc _)) evs_nil) (fun wx hx => (right_any l v wx (hl.ext (((((((((((((((((h1.trans h2).trans h3).trans h4).trans h5).trans h7).trans h8).trans h9).trans h10).trans h11).trans h12).trans h13).trans h14).trans h15).trans h16).trans h17).trans h18).trans hx))))) ?_  -- 8.19: t76 := call
    refine ER.silG rfl rfl rfl rfl rfl rfl (fun hc => Sil.move rfl) ?_  -- 8.20: t77 := move
    refine ER.exG rfl rfl rfl rfl rfl rfl (fun hc => Exa.call fok17 rfl (evs_cons (congrArg some (sel_eq hc _)) evs_nil) (fun wx hx => (refRight_any l v wx (hl.ext (((((((((((((((((h1.trans h2).trans h3).trans h4).trans h5).trans h7).trans h8).trans h9).trans h10).trans h11).trans h12).trans h13).trans h14).trans h15).trans h16).trans h17).trans h18).trans hx))))) ?_  -- 8.21: t78 := call
    refine ER.silG rfl rfl rfl rfl rfl rfl (fun hc => Sil.beql Try.underlying4 (congrArg some (sel_eq hc _)) (congrArg some (sel_eq hc _))) ?_  -- 8.22: t79 := binOp
    refine ER.sil rfl rfl rfl rfl (Sil.pickAnd rfl rfl rfl) ?_  -- 8.23: t80 := pick
    refine ER.sil rfl rfl rfl rfl (Sil.move rfl) ?_  -- 8.24: t81 := move
    refine ER.silG rfl rfl rfl rfl rfl rfl (fun hc => Sil.move rfl) ?_  -- 8.25: t82 := move
    refine ER.exG rfl rfl rfl rfl rfl rfl (fun hc => Exa.call fok18 rfl (evs_cons (congrArg some (sel_eq hc _)) evs_nil) (fun wx hx => (total_any l v wx (hl.ext (((((((((((((((((h1.trans h2).trans h3).trans h4).trans h5).trans h7).trans h8).trans h9).trans h10).trans h11).trans h12).trans h13).trans h14).trans h15).trans h16).trans h17).trans h18).trans hx))))) ?_  -- 8.26: t83 := call
    refine ER.silG rfl rfl rfl rfl rfl rfl (fun hc => Sil.move rfl) ?_  -- 8.27: t84 := move
    refine ER.exG rfl rfl rfl rfl rfl rfl (fun hc => Exa.call fok19 rfl (evs_cons (congrArg some (sel_eq hc _)) evs_nil) (fun wx hx => (refTotal_any l v wx (hl.ext (((((((((((((((((h1.trans h2).trans h3).trans h4).trans h5).trans h7).trans h8).trans h9).trans h10).trans h11).trans h12).trans h13).trans h14).trans h15).trans h16).trans h17).trans h18).trans hx))))) ?_  -- 8.28: t85 := call
    refine ER.silG rfl rfl rfl rfl rfl rfl (fun hc => Sil.eql (congrArg some (sel_eq hc _)) (congrArg some (sel_eq hc _))) ?_  -- 8.29: t86 := binOp
    refine ER.sil rfl rfl rfl rfl (Sil.pickAnd rfl rfl rfl) ?_  -- 8.30: t87 := pick
    refine ER.sil rfl rfl rfl rfl (Sil.move rfl) ?_  -- 8.31: t88 := move
    refine ER.silG rfl rfl rfl rfl rfl rfl (fun hc => Sil.move rfl) ?_  -- 8.32: t89 := move
    refine ER.exG rfl rfl rfl rfl rfl rfl (fun hc => Exa.loadAgg (vs := spC s) agg24 rfl ((r2.ext ((((((((((((((h3.trans h4).trans h5).trans h7).trans h8).trans h9).trans h10).trans h11).trans h12).trans h13).trans h14).trans h15).trans h16).trans h17).trans h18)).at)) ?_  -- 8.33: t90 := load
    refine ER.exG rfl rfl rfl rfl rfl rfl (fun hc => Exa.call fok20 rfl (evs_cons (congrArg some (sel_eq hc _)) (evs_cons (congrArg some (sel_eq hc _)) evs_nil)) (fun wx hx => (has_any l v s wx (hl.ext (((((((((((((((((h1.trans h2).trans h3).trans h4).trans h5).trans h7).trans h8).trans h9).trans h10).trans h11).trans h12).trans h13).trans h14).trans h15).trans h16).trans h17).trans h18).trans hx))))) ?_  -- 8.34: t91 := call
    refine ER.silG rfl rfl rfl rfl rfl rfl (fun hc => Sil.move rfl) ?_  -- 8.35: t92 := move
    refine ER.exG rfl rfl rfl rfl rfl rfl (fun hc => Exa.loadAgg (vs := spC s) agg24 rfl ((r2.ext ((((((((((((((h3.trans h4).trans h5).trans h7).trans h8).trans h9).trans h10).trans h11).trans h12).trans h13).trans h14).trans h15).trans h16).trans h17).trans h18)).at)) ?_  -- 8.36: t93 := load
    refine ER.exG rfl rfl rfl rfl rfl rfl (fun hc => Exa.call fok21 rfl (evs_cons (congrArg some (sel_eq hc _)) (evs_cons (congrArg some (sel_eq hc _)) evs_nil)) (fun wx hx => (refHas_any l v s wx (hl.ext (((((((((((((((((h1.trans h2).trans h3).trans h4).trans h5).trans h7).trans h8).trans h9).trans h10).trans h11).trans h12).trans h13).trans h14).trans h15).trans h16).trans h17).trans h18).trans hx)) (by omega)))) ?_  -- 8.37: t94 := call
    refine ER.silG rfl rfl rfl rfl rfl rfl (fun hc => Sil.beql Try.underlying4 (congrArg some (sel_eq hc _)) (congrArg some (sel_eq hc _))) ?_  -- 8.38: t95 := binOp
    refine ER.sil rfl rfl rfl rfl (Sil.pickAnd rfl rfl rfl) ?_  -- 8.39: t96 := pick
    refine ER.sil rfl rfl rfl rfl (Sil.move rfl) ?_  -- 8.40: t97 := move
    refine ER.silG rfl rfl rfl rfl rfl rfl (fun hc => Sil.move rfl) ?_  -- 8.41: t98 := move
    refine ER.exG rfl rfl rfl rfl rfl rfl (fun hc => Exa.loadAgg (vs := spC s) agg24 rfl ((r2.ext ((((((((((((((h3.trans h4).trans h5).trans h7).trans h8).trans h9).trans h10).trans h11).trans h12).trans h13).trans h14).trans h15).trans h16).trans h17).trans h18)).at)) ?_  -- 8.42: t99 := load
    refine ER.exG rfl rfl rfl rfl rfl rfl (fun hc => Exa.call fok22 rfl (evs_cons (congrArg some (sel_eq hc _)) (evs_cons (congrArg some (sel_eq hc _)) evs_nil)) (fun wx hx => (meets_any l v s wx (hl.ext (((((((((((((((((h1.trans h2).trans h3).trans h4).trans h5).trans h7).trans h8).trans h9).trans h10).trans h11).trans h12).trans h13).trans h14).trans h15).trans h16).trans h17).trans h18).trans hx))))) ?_  -- 8.43: t100 := call
    refine ER.silG rfl rfl rfl rfl rfl rfl (fun hc => Sil.move rfl) ?_  -- 8.44: t101 := move
    refine ER.exG rfl rfl rfl rfl rfl rfl (fun hc => Exa.loadAgg (vs := spC s) agg24 rfl ((r2.ext ((((((((((((((h3.trans h4).trans h5).trans h7).trans h8).trans h9).trans h10).trans h11).trans h12).trans h13).trans h14).trans h15).trans h16).trans h17).trans h18)).at)) ?_  -- 8.45: t102 := load
    refine ER.exG rfl rfl rfl rfl rfl rfl (fun hc => Exa.call fok23 rfl (evs_cons (congrArg some (sel_eq hc _)) (evs_cons (congrArg some (sel_eq hc _)) evs_nil)) (fun wx hx => (refMeets_any l v s wx (hl.ext (((((((((((((((((h1.trans h2).trans h3).trans h4).trans h5).trans h7).trans h8).trans h9).trans h10).trans h11).trans h12).trans h13).trans h14).trans h15).trans h16).trans h17).trans h18).trans hx)) (by omega)))) ?_  -- 8.46: t103 := call
    refine ER.silG rfl rfl rfl rfl rfl rfl (fun hc => Sil.beql Try.underlying4 (congrArg some (sel_eq hc _)) (congrArg some (sel_eq hc _))) ?_  -- 8.47: t104 := binOp
    refine ER.sil rfl rfl rfl rfl (Sil.pickAnd rfl rfl rfl) ?_  -- 8.48: t105 := pick
    refine ER.sil rfl rfl rfl rfl (Sil.assign rfl) ?_  -- 8.49: t12 := assign
    refine ER.nil (fun w19 h19 => ?_)
    refine AQ.then ?_
    refine EC.ret ?_
    refine AQ.ret1 Try.results3 rfl ?_
    exact ⟨ret_b (show tellsGo l s size align from_ until_ = lawTells l s size align from_ until_ by rw [lawTells, hb0]; rfl), (((((((((((((((((h1.trans h2).trans h3).trans h4).trans h5).trans h7).trans h8).trans h9).trans h10).trans h11).trans h12).trans h13).trans h14).trans h15).trans h16).trans h17).trans h18).trans h19)⟩

-- linchpin/linchpinlaw04.RoomSets: parameters ['[]api.Span', 'api.Span', 'int'] (free 0), results [('ResultVar.tmp', 6)], 116 slots
theorem sets_any (l : List Sp) (v : Value) (s : Sp) (a : Int) (w : World) (hl : Spans w v l) :
    Calls Try.prog 4 [v, spV s, .int .i64 a].toArray w fun e w' => e = .returned (.bool (lawSets l s a)) ∧ Ext w w' := by
  refine calls_of Try.func4 rfl Try.ntmps4 rfl ?_
  refine EC.seq ?_
  -- region 0  law.go:39
  refine EC.region (fun i => [2, 1].getD i 0) [0, 1] rfl ?_
  refine ER.st rfl rfl rfl rfl (fun w1 h1 => Stp.box rfl (fun w2 h2 s2 r2 => ⟨h2, ?_⟩))  -- 0.0: t4 := box
  refine ER.sil rfl rfl rfl rfl (Sil.assign rfl) ?_  -- 0.1: t6 := assign
  refine ER.nil (fun w3 h3 => ?_)
  refine AQ.then ?_
  refine EC.seq ?_
  -- region 1  law.go:40
  refine EC.region (fun i => [0, 1].getD i 0) [0, 1] rfl ?_
  refine ER.ex rfl rfl rfl rfl (Exa.call fok8 rfl rfl (fun wx hx => (small_any wx))) ?_  -- 1.0: t12 := call
  refine ER.sil rfl rfl rfl rfl (Sil.assign rfl) ?_  -- 1.1: t7 := assign
  refine ER.nil (fun w4 h4 => ?_)
  refine AQ.then ?_
  refine EC.seq ?_
  refine EC.seq ?_
  -- region 2  law.go:41
  refine EC.region (fun i => [1, 1, 1, 1, 1, 0, 1, 1, 1, 1, 0, 1, 1, 1, 1, 0, 1, 1, 1, 1, 0, 1, 1, 1, 1, 0, 1, 0, 1, 1, 1, 1, 1, 1, 1, 1, 1, 1, 1].getD i 0) [0, 1, 2, 3, 4, 5, 6, 7, 8, 9, 10, 11, 12, 13, 14, 15, 16, 17, 18, 19, 20, 21, 22, 23, 24, 25, 26, 27, 28, 29, 30, 31, 32, 33, 34, 35, 36, 37, 38] rfl ?_
  refine ER.sil rfl rfl rfl rfl (Sil.move rfl) ?_  -- 2.0: t13 := move
  refine ER.sil rfl rfl rfl rfl (Sil.lenR Try.underlying22 rfl (Reads.isS hl)) ?_  -- 2.1: t14 := call
  refine ER.sil rfl rfl rfl rfl (Sil.gtr rfl rfl) ?_  -- 2.2: t15 := binOp
  refine ER.sil rfl rfl rfl rfl (Sil.move rfl) ?_  -- 2.3: t16 := move
  refine ER.silG rfl rfl rfl rfl rfl rfl (fun hc => Sil.move rfl) ?_  -- 2.4: t17 := move
  refine ER.exG rfl rfl rfl rfl rfl rfl (fun hc => Exa.call fok16 rfl (evs_cons (congrArg some (sel_eq hc _)) evs_nil) (fun wx hx => (right_any l v wx (hl.ext ((((h1.trans h2).trans h3).trans h4).trans hx))))) ?_  -- 2.5: t18 := call
  refine ER.silG rfl rfl rfl rfl rfl rfl (fun hc => Sil.not (congrArg some (sel_eq hc _))) ?_  -- 2.6: t19 := unOp
  refine ER.sil rfl rfl rfl rfl (Sil.pickOr rfl rfl rfl) ?_  -- 2.7: t20 := pick
  refine ER.sil rfl rfl rfl rfl (Sil.move rfl) ?_  -- 2.8: t21 := move
  refine ER.silG rfl rfl rfl rfl rfl rfl (fun hc => Sil.fieldAddr Try.underlying24 rfl inf3 rfl) ?_  -- 2.9: t22 := fieldAddr
  refine ER.exG rfl rfl rfl rfl rfl rfl (fun hc => Exa.load flat3 (congrArg some (sel_eq hc _)) ((r2.ext (h3.trans h4)).cell rfl)) ?_  -- 2.10: t23 := load
  refine ER.silG rfl rfl rfl rfl rfl rfl (fun hc => Sil.lss (congrArg some (sel_eq hc _)) rfl) ?_  -- 2.11: t24 := binOp
  refine ER.sil rfl rfl rfl rfl (Sil.pickOr rfl rfl rfl) ?_  -- 2.12: t25 := pick
  refine ER.sil rfl rfl rfl rfl (Sil.move rfl) ?_  -- 2.13: t26 := move
  refine ER.silG rfl rfl rfl rfl rfl rfl (fun hc => Sil.fieldAddr Try.underlying24 rfl inf3 rfl) ?_  -- 2.14: t27 := fieldAddr
  refine ER.exG rfl rfl rfl rfl rfl rfl (fun hc => Exa.load flat3 (congrArg some (sel_eq hc _)) ((r2.ext (h3.trans h4)).cell rfl)) ?_  -- 2.15: t28 := load
  refine ER.silG rfl rfl rfl rfl rfl rfl (fun hc => Sil.gtr (congrArg some (sel_eq hc _)) rfl) ?_  -- 2.16: t29 := binOp
  refine ER.sil rfl rfl rfl rfl (Sil.pickOr rfl rfl rfl) ?_  -- 2.17: t30 := pick
  refine ER.sil rfl rfl rfl rfl (Sil.move rfl) ?_  -- 2.18: t31 := move
  refine ER.silG rfl rfl rfl rfl rfl rfl (fun hc => Sil.fieldAddr Try.underlying24 rfl inf3 rfl) ?_  -- 2.19: t32 := fieldAddr
  refine ER.exG rfl rfl rfl rfl rfl rfl (fun hc => Exa.load flat3 (congrArg some (sel_eq hc _)) ((r2.ext (h3.trans h4)).cell rfl)) ?_  -- 2.20: t33 := load
  refine ER.silG rfl rfl rfl rfl rfl rfl (fun hc => Sil.lss (congrArg some (sel_eq hc _)) rfl) ?_  -- 2.21: t34 := binOp
  refine ER.sil rfl rfl rfl rfl (Sil.pickOr rfl rfl rfl) ?_  -- 2.22: t35 := pick
  refine ER.sil rfl rfl rfl rfl (Sil.move rfl) ?_  -- 2.23: t36 := move
  refine ER.silG rfl rfl rfl rfl rfl rfl (fun hc => Sil.fieldAddr Try.underlying24 rfl inf3 rfl) ?_  -- 2.24: t37 := fieldAddr
  refine ER.exG rfl rfl rfl rfl rfl rfl (fun hc => Exa.load flat3 (congrArg some (sel_eq hc _)) ((r2.ext (h3.trans h4)).cell rfl)) ?_  -- 2.25: t38 := load
  refine ER.silG rfl rfl rfl rfl rfl rfl (fun hc => Sil.fieldAddr Try.underlying24 rfl inf3 rfl) ?_  -- 2.26: t39 := fieldAddr
  refine ER.exG rfl rfl rfl rfl rfl rfl (fun hc => Exa.load flat3 (congrArg some (sel_eq hc _)) ((r2.ext (h3.trans h4)).cell rfl)) ?_  -- 2.27: t40 := load
  refine ER.silG rfl rfl rfl rfl rfl rfl (fun hc => Sil.sub rfl (congrArg some (sel_eq hc _))) ?_  -- 2.28: t41 := binOp
  refine ER.silG rfl rfl rfl rfl rfl rfl (fun hc => Sil.gtr (congrArg some (sel_eq hc _)) (congrArg some (sel_eq hc _))) ?_  -- 2.29: t42 := binOp
  refine ER.sil rfl rfl rfl rfl (Sil.pickOr rfl rfl rfl) ?_  -- 2.30: t43 := pick
  refine ER.sil rfl rfl rfl rfl (Sil.move rfl) ?_  -- 2.31: t44 := move
  refine ER.silG rfl rfl rfl rfl rfl rfl (fun hc => Sil.move rfl) ?_  -- 2.32: t45 := move
  refine ER.silG rfl rfl rfl rfl rfl rfl (fun hc => Sil.lss (congrArg some (sel_eq hc _)) rfl) ?_  -- 2.33: t46 := binOp
  refine ER.sil rfl rfl rfl rfl (Sil.pickOr rfl rfl rfl) ?_  -- 2.34: t47 := pick
  refine ER.sil rfl rfl rfl rfl (Sil.move rfl) ?_  -- 2.35: t48 := move
  refine ER.silG rfl rfl rfl rfl rfl rfl (fun hc => Sil.move rfl) ?_  -- 2.36: t49 := move
  refine ER.silG rfl rfl rfl rfl rfl rfl (fun hc => Sil.geq (congrArg some (sel_eq hc _)) rfl) ?_  -- 2.37: t50 := binOp
  refine ER.sil rfl rfl rfl rfl (Sil.pickOr rfl rfl rfl) ?_  -- 2.38: t51 := pick
  refine ER.nil (fun w5 h5 => ?_)
  refine AQ.then ?_
  refine EC.cond rfl (fun hb0 => ?_) (fun hb0 => ?_)  -- cond 0: t51
  ·
    have hb0 : setsBad l s a = true := hb0
    refine EC.seq ?_
    -- region 3  law.go:42
    refine EC.region (fun i => [1, 1].getD i 0) [0, 1] rfl ?_
    refine ER.sil rfl rfl rfl rfl (Sil.move rfl) ?_  -- 3.0: t52 := move
    refine ER.sil rfl rfl rfl rfl (Sil.assign rfl) ?_  -- 3.1: t6 := assign
    refine ER.nil (fun w6 h6 => ?_)
    refine AQ.then ?_
    refine EC.ret ?_
    refine AQ.thenRet ?_
    refine AQ.ret1 Try.results4 rfl ?_
    exact ⟨ret_b (show true = lawSets l s a by rw [lawSets, hb0]; rfl), (((((h1.trans h2).trans h3).trans h4).trans h5).trans h6)⟩
  ·
    have hb0 : setsBad l s a = false := hb0
    have hn : l.length ≤ 40 := setsBad_len hb0
    refine EC.skip ?_
    refine AQ.then ?_
    refine EC.seq ?_
    -- region 4  law.go:44
    refine EC.region (fun i => [1, 0, 2, 1].getD i 0) [0, 1, 2, 3] rfl ?_
    refine ER.sil rfl rfl rfl rfl (Sil.move rfl) ?_  -- 4.0: t53 := move
    refine ER.ex rfl rfl rfl rfl (Exa.loadAgg (vs := spC s) agg24 rfl ((r2.ext ((h3.trans h4).trans h5)).at)) ?_  -- 4.1: t54 := load
    refine ER.st rfl rfl rfl rfl (fun w7 h7 => Stp.call fok12 rfl rfl (Calls.mono ((add_any l v s w7 (hl.ext (((((h1.trans h2).trans h3).trans h4).trans h5).trans h7)) (by omega))) ?_))  -- 4.2: t55 := call
    rintro _ w8 ⟨v8, rfl, h8, pa8⟩
    refine ⟨v8, rfl, h8, ?_⟩
    refine ER.sil rfl rfl rfl rfl (Sil.assign rfl) ?_  -- 4.3: t8 := assign
    refine ER.nil (fun w9 h9 => ?_)
    refine AQ.then ?_
    refine EC.seq ?_
    -- region 5  law.go:45
    refine EC.region (fun i => [1, 0, 2, 1].getD i 0) [0, 1, 2, 3] rfl ?_
    refine ER.sil rfl rfl rfl rfl (Sil.move rfl) ?_  -- 5.0: t56 := move
    refine ER.ex rfl rfl rfl rfl (Exa.loadAgg (vs := spC s) agg24 rfl ((r2.ext (((((h3.trans h4).trans h5).trans h7).trans h8).trans h9)).at)) ?_  -- 5.1: t57 := load
    refine ER.st rfl rfl rfl rfl (fun w10 h10 => Stp.call fok14 rfl rfl (Calls.mono ((cut_any l v s w10 (hl.ext ((((((((h1.trans h2).trans h3).trans h4).trans h5).trans h7).trans h8).trans h9).trans h10)) (by omega))) ?_))  -- 5.2: t58 := call
    rintro _ w11 ⟨v11, rfl, h11, pb11⟩
    refine ⟨v11, rfl, h11, ?_⟩
    refine ER.sil rfl rfl rfl rfl (Sil.assign rfl) ?_  -- 5.3: t9 := assign
    refine ER.nil (fun w12 h12 => ?_)
    refine AQ.then ?_
    refine EC.seq ?_
    -- region 6  law.go:46
    refine EC.region (fun i => [1, 1, 0, 0, 1].getD i 0) [0, 1, 2, 3, 4] rfl ?_
    refine ER.sil rfl rfl rfl rfl (Sil.move rfl) ?_  -- 6.0: t59 := move
    refine ER.sil rfl rfl rfl rfl (Sil.move rfl) ?_  -- 6.1: t60 := move
    refine ER.ex rfl rfl rfl rfl (Exa.call fok24 rfl rfl (fun wx hx => (one_any a wx))) ?_  -- 6.2: t61 := call
    refine ER.ex rfl rfl rfl rfl (Exa.call fok20 rfl rfl (fun wx hx => (has_any l v (a, 1) wx (hl.ext (((((((((((h1.trans h2).trans h3).trans h4).trans h5).trans h7).trans h8).trans h9).trans h10).trans h11).trans h12).trans hx))))) ?_  -- 6.3: t62 := call
    refine ER.sil rfl rfl rfl rfl (Sil.assign rfl) ?_  -- 6.4: t10 := assign
    refine ER.nil (fun w13 h13 => ?_)
    refine AQ.then ?_
    refine EC.seq ?_
    -- region 7  law.go:47
    refine EC.region (fun i => [1, 1, 0, 1, 1, 1, 1, 0, 1, 0, 1, 1, 1, 1].getD i 0) [0, 1, 2, 3, 4, 5, 6, 7, 8, 9, 10, 11, 12, 13] rfl ?_
    refine ER.sil rfl rfl rfl rfl (Sil.move rfl) ?_  -- 7.0: t63 := move
    refine ER.sil rfl rfl rfl rfl (Sil.fieldAddr Try.underlying24 rfl inf3 rfl) ?_  -- 7.1: t64 := fieldAddr
    refine ER.ex rfl rfl rfl rfl (Exa.load flat3 rfl ((r2.ext (((((((((h3.trans h4).trans h5).trans h7).trans h8).trans h9).trans h10).trans h11).trans h12).trans h13)).cell rfl)) ?_  -- 7.2: t65 := load
    refine ER.sil rfl rfl rfl rfl (Sil.geq rfl rfl) ?_  -- 7.3: t66 := binOp
    refine ER.sil rfl rfl rfl rfl (Sil.move rfl) ?_  -- 7.4: t67 := move
    refine ER.silG rfl rfl rfl rfl rfl rfl (fun hc => Sil.move rfl) ?_  -- 7.5: t68 := move
    refine ER.silG rfl rfl rfl rfl rfl rfl (fun hc => Sil.fieldAddr Try.underlying24 rfl inf3 rfl) ?_  -- 7.6: t69 := fieldAddr
    refine ER.exG rfl rfl rfl rfl rfl rfl (fun hc => Exa.load flat3 (congrArg some (sel_eq hc _)) ((r2.ext (((((((((h3.trans h4).trans h5).trans h7).trans h8).trans h9).trans h10).trans h11).trans h12).trans h13)).cell rfl)) ?_  -- 7.7: t70 := load
    refine ER.silG rfl rfl rfl rfl rfl rfl (fun hc => Sil.fieldAddr Try.underlying24 rfl inf3 rfl) ?_  -- 7.8: t71 := fieldAddr
    refine ER.exG rfl rfl rfl rfl rfl rfl (fun hc => Exa.load flat3 (congrArg some (sel_eq hc _)) ((r2.ext (((((((((h3.trans h4).trans h5).trans h7).trans h8).trans h9).trans h10).trans h11).trans h12).trans h13)).cell rfl)) ?_  -- 7.9: t72 := load
    refine ER.silG rfl rfl rfl rfl rfl rfl (fun hc => Sil.add (congrArg some (sel_eq hc _)) (congrArg some (sel_eq hc _))) ?_  -- 7.10: t73 := binOp
    refine ER.silG rfl rfl rfl rfl rfl rfl (fun hc => Sil.lss (congrArg some (sel_eq hc _)) (congrArg some (sel_eq hc _))) ?_  -- 7.11: t74 := binOp
    refine ER.sil rfl rfl rfl rfl (Sil.pickAnd rfl rfl rfl) ?_  -- 7.12: t75 := pick
    refine ER.sil rfl rfl rfl rfl (Sil.assign rfl) ?_  -- 7.13: t11 := assign
    refine ER.nil (fun w14 h14 => ?_)
    refine AQ.then ?_
    refine EC.seq ?_
    -- region 8  law.go:48
    refine EC.region (fun i => [1, 1, 1, 0, 1, 1, 1, 0, 1, 1, 1, 1, 0, 0, 1, 1, 1, 1, 1, 1, 1, 1, 1, 0, 0, 1, 1, 1, 1, 1, 1, 1, 1, 1, 1, 0, 0, 1, 1, 1, 1].getD i 0) [0, 1, 2, 3, 4, 5, 6, 7, 8, 9, 10, 11, 12, 13, 14, 15, 16, 17, 18, 19, 20, 21, 22, 23, 24, 25, 26, 27, 28, 29, 30, 31, 32, 33, 34, 35, 36, 37, 38, 39, 40] rfl ?_
    refine ER.sil rfl rfl rfl rfl (Sil.move rfl) ?_  -- 8.0: t76 := move
    refine ER.sil rfl rfl rfl rfl (Sil.move rfl) ?_  -- 8.1: t77 := move
    refine ER.silG rfl rfl rfl rfl rfl rfl (fun hc => Sil.move rfl) ?_  -- 8.2: t78 := move
    refine ER.exG rfl rfl rfl rfl rfl rfl (fun hc => Exa.call fok16 rfl (evs_cons (congrArg some (sel_eq hc _)) evs_nil) (fun wx hx => (right_any _ _ wx ((Spans.of_own (Ext.own pa8 (((((h9.trans h10).trans h11).trans h12).trans h13).trans h14))).ext hx)))) ?_  -- 8.3: t79 := call
    refine ER.sil rfl rfl rfl rfl (Sil.pickAnd rfl rfl rfl) ?_  -- 8.4: t80 := pick
    refine ER.sil rfl rfl rfl rfl (Sil.move rfl) ?_  -- 8.5: t81 := move
    refine ER.silG rfl rfl rfl rfl rfl rfl (fun hc => Sil.move rfl) ?_  -- 8.6: t82 := move
    refine ER.exG rfl rfl rfl rfl rfl rfl (fun hc => Exa.call fok16 rfl (evs_cons (congrArg some (sel_eq hc _)) evs_nil) (fun wx hx => (right_any _ _ wx ((Spans.of_own (Ext.own pb11 ((h12.trans h13).trans h14))).ext hx)))) ?_  -- 8.7: t83 := call
    refine ER.sil rfl rfl rfl rfl (Sil.pickAnd rfl rfl rfl) ?_  -- 8.8: t84 := pick
    refine ER.sil rfl rfl rfl rfl (Sil.move rfl) ?_  -- 8.9: t85 := move
    refine ER.silG rfl rfl rfl rfl rfl rfl (fun hc => Sil.move rfl) ?_  -- 8.10: t86 := move
    refine ER.silG rfl rfl rfl rfl rfl rfl (fun hc => Sil.move rfl) ?_  -- 8.11: t87 := move
    refine ER.exG rfl rfl rfl rfl rfl rfl (fun hc => Exa.call fok24 rfl (evs_cons (congrArg some (sel_eq hc _)) evs_nil) (fun wx hx => (one_any a wx))) ?_  -- 8.12: t88 := call
    refine ER.exG rfl rfl rfl rfl rfl rfl (fun hc => Exa.call fok20 rfl (evs_cons (congrArg some (sel_eq hc _)) (evs_cons (congrArg some (sel_eq hc _)) evs_nil)) (fun wx hx => (has_any _ _ (a, 1) wx ((Spans.of_own (Ext.own pa8 (((((h9.trans h10).trans h11).trans h12).trans h13).trans h14))).ext hx)))) ?_  -- 8.13: t89 := call
    refine ER.silG rfl rfl rfl rfl rfl rfl (fun hc => Sil.move rfl) ?_  -- 8.14: t90 := move
    refine ER.silG rfl rfl rfl rfl rfl rfl (fun hc => Sil.move (congrArg some (sel_eq hc _))) ?_  -- 8.15: t91 := move
    refine ER.silGG rfl rfl rfl rfl rfl rfl (fun hp hc => Sil.move rfl) ?_  -- 8.16: t92 := move
    refine ER.silG rfl rfl rfl rfl rfl rfl (fun hc => Sil.pickOr (congrArg some (sel_eq hc _)) rfl (congrArg some (sel_in hc _ _))) ?_  -- 8.17: t93 := pick
    refine ER.silG rfl rfl rfl rfl rfl rfl (fun hc => Sil.beql Try.underlying4 (congrArg some (sel_eq hc _)) (congrArg some (sel_eq hc _))) ?_  -- 8.18: t94 := binOp
    refine ER.sil rfl rfl rfl rfl (Sil.pickAnd rfl rfl rfl) ?_  -- 8.19: t95 := pick
    refine ER.sil rfl rfl rfl rfl (Sil.move rfl) ?_  -- 8.20: t96 := move
    refine ER.silG rfl rfl rfl rfl rfl rfl (fun hc => Sil.move rfl) ?_  -- 8.21: t97 := move
    refine ER.silG rfl rfl rfl rfl rfl rfl (fun hc => Sil.move rfl) ?_  -- 8.22: t98 := move
    refine ER.exG rfl rfl rfl rfl rfl rfl (fun hc => Exa.call fok24 rfl (evs_cons (congrArg some (sel_eq hc _)) evs_nil) (fun wx hx => (one_any a wx))) ?_  -- 8.23: t99 := call
    refine ER.exG rfl rfl rfl rfl rfl rfl (fun hc => Exa.call fok20 rfl (evs_cons (congrArg some (sel_eq hc _)) (evs_cons (congrArg some (sel_eq hc _)) evs_nil)) (fun wx hx => (has_any _ _ (a, 1) wx ((Spans.of_own (Ext.own pb11 ((h12.trans h13).trans h14))).ext hx)))) ?_  -- 8.24: t100 := call
    refine ER.silG rfl rfl rfl rfl rfl rfl (fun hc => Sil.move rfl) ?_  -- 8.25: t101 := move
    refine ER.silG rfl rfl rfl rfl rfl rfl (fun hc => Sil.move (congrArg some (sel_eq hc _))) ?_  -- 8.26: t102 := move
    refine ER.silGG rfl rfl rfl rfl rfl rfl (fun hp hc => Sil.move rfl) ?_  -- 8.27: t103 := move
    refine ER.silGG rfl rfl rfl rfl rfl rfl (fun hp hc => Sil.not (congrArg some (sel_2 hp hc _))) ?_  -- 8.28: t104 := unOp
    refine ER.silG rfl rfl rfl rfl rfl rfl (fun hc => Sil.pickAnd (congrArg some (sel_eq hc _)) (congrArg some (sel_in hc _ _)) rfl) ?_  -- 8.29: t105 := pick
    refine ER.silG rfl rfl rfl rfl rfl rfl (fun hc => Sil.beql Try.underlying4 (congrArg some (sel_eq hc _)) (congrArg some (sel_eq hc _))) ?_  -- 8.30: t106 := binOp
    refine ER.sil rfl rfl rfl rfl (Sil.pickAnd rfl rfl rfl) ?_  -- 8.31: t107 := pick
    refine ER.sil rfl rfl rfl rfl (Sil.move rfl) ?_  -- 8.32: t108 := move
    refine ER.silG rfl rfl rfl rfl rfl rfl (fun hc => Sil.move rfl) ?_  -- 8.33: t109 := move
    refine ER.silG rfl rfl rfl rfl rfl rfl (fun hc => Sil.move rfl) ?_  -- 8.34: t110 := move
    refine ER.exG rfl rfl rfl rfl rfl rfl (fun hc => Exa.call fok24 rfl (evs_cons (congrArg some (sel_eq hc _)) evs_nil) (fun wx hx => (one_any a wx))) ?_  -- 8.35: t111 := call
    refine ER.exG rfl rfl rfl rfl rfl rfl (fun hc => Exa.call fok22 rfl (evs_cons (congrArg some (sel_eq hc _)) (evs_cons (congrArg some (sel_eq hc _)) evs_nil)) (fun wx hx => (meets_any l v (a, 1) wx (hl.ext (((((((((((((h1.trans h2).trans h3).trans h4).trans h5).trans h7).trans h8).trans h9).trans h10).trans h11).trans h12).trans h13).trans h14).trans hx))))) ?_  -- 8.36: t112 := call
    refine ER.silG rfl rfl rfl rfl rfl rfl (fun hc => Sil.move rfl) ?_  -- 8.37: t113 := move
    refine ER.silG rfl rfl rfl rfl rfl rfl (fun hc => Sil.beql Try.underlying4 (congrArg some (sel_eq hc _)) (congrArg some (sel_eq hc _))) ?_  -- 8.38: t114 := binOp
    refine ER.sil rfl rfl rfl rfl (Sil.pickAnd rfl rfl rfl) ?_  -- 8.39: t115 := pick
    refine ER.sil rfl rfl rfl rfl (Sil.assign rfl) ?_  -- 8.40: t6 := assign
    refine ER.nil (fun w15 h15 => ?_)
    refine AQ.then ?_
    refine EC.ret ?_
    refine AQ.ret1 Try.results4 rfl ?_
    exact ⟨ret_b (show setsGo l s a = lawSets l s a by rw [lawSets, hb0]; rfl), (((((((((((((h1.trans h2).trans h3).trans h4).trans h5).trans h7).trans h8).trans h9).trans h10).trans h11).trans h12).trans h13).trans h14).trans h15)⟩

-- linchpin/linchpinlaw04.RoomCounts: parameters ['[]api.Span', 'api.Span'] (free 0), results [('ResultVar.tmp', 4)], 83 slots
theorem counts_any (l : List Sp) (v : Value) (s : Sp) (w : World) (hl : Spans w v l) :
    Calls Try.prog 5 [v, spV s].toArray w fun e w' => e = .returned (.bool (lawCounts l s)) ∧ Ext w w' := by
  refine calls_of Try.func5 rfl Try.ntmps5 rfl ?_
  refine EC.seq ?_
  -- region 0  law.go:52
  refine EC.region (fun i => [2, 1].getD i 0) [0, 1] rfl ?_
  refine ER.st rfl rfl rfl rfl (fun w1 h1 => Stp.box rfl (fun w2 h2 s2 r2 => ⟨h2, ?_⟩))  -- 0.0: t3 := box
  refine ER.sil rfl rfl rfl rfl (Sil.assign rfl) ?_  -- 0.1: t4 := assign
  refine ER.nil (fun w3 h3 => ?_)
  refine AQ.then ?_
  refine EC.seq ?_
  -- region 1  law.go:53
  refine EC.region (fun i => [0, 1].getD i 0) [0, 1] rfl ?_
  refine ER.ex rfl rfl rfl rfl (Exa.call fok8 rfl rfl (fun wx hx => (small_any wx))) ?_  -- 1.0: t9 := call
  refine ER.sil rfl rfl rfl rfl (Sil.assign rfl) ?_  -- 1.1: t5 := assign
  refine ER.nil (fun w4 h4 => ?_)
  refine AQ.then ?_
  refine EC.seq ?_
  refine EC.seq ?_
  -- region 2  law.go:54
  refine EC.region (fun i => [1, 1, 1, 1, 1, 0, 1, 1, 1, 1, 0, 1, 1, 1, 1, 0, 1, 1, 1, 1, 0, 1, 1, 1, 1, 0, 1, 0, 1, 1, 1].getD i 0) [0, 1, 2, 3, 4, 5, 6, 7, 8, 9, 10, 11, 12, 13, 14, 15, 16, 17, 18, 19, 20, 21, 22, 23, 24, 25, 26, 27, 28, 29, 30] rfl ?_
  refine ER.sil rfl rfl rfl rfl (Sil.move rfl) ?_  -- 2.0: t10 := move
  refine ER.sil rfl rfl rfl rfl (Sil.lenR Try.underlying22 rfl (Reads.isS hl)) ?_  -- 2.1: t11 := call
  refine ER.sil rfl rfl rfl rfl (Sil.gtr rfl rfl) ?_  -- 2.2: t12 := binOp
  refine ER.sil rfl rfl rfl rfl (Sil.move rfl) ?_  -- 2.3: t13 := move
  refine ER.silG rfl rfl rfl rfl rfl rfl (fun hc => Sil.move rfl) ?_  -- 2.4: t14 := move
  refine ER.exG rfl rfl rfl rfl rfl rfl (fun hc => Exa.call fok16 rfl (evs_cons (congrArg some (sel_eq hc _)) evs_nil) (fun wx hx => (right_any l v wx (hl.ext ((((h1.trans h2).trans h3).trans h4).trans hx))))) ?_  -- 2.5: t15 := call
  refine ER.silG rfl rfl rfl rfl rfl rfl (fun hc => Sil.not (congrArg some (sel_eq hc _))) ?_  -- 2.6: t16 := unOp
  refine ER.sil rfl rfl rfl rfl (Sil.pickOr rfl rfl rfl) ?_  -- 2.7: t17 := pick
  refine ER.sil rfl rfl rfl rfl (Sil.move rfl) ?_  -- 2.8: t18 := move
  refine ER.silG rfl rfl rfl rfl rfl rfl (fun hc => Sil.fieldAddr Try.underlying24 rfl inf3 rfl) ?_  -- 2.9: t19 := fieldAddr
  refine ER.exG rfl rfl rfl rfl rfl rfl (fun hc => Exa.load flat3 (congrArg some (sel_eq hc _)) ((r2.ext (h3.trans h4)).cell rfl)) ?_  -- 2.10: t20 := load
  refine ER.silG rfl rfl rfl rfl rfl rfl (fun hc => Sil.lss (congrArg some (sel_eq hc _)) rfl) ?_  -- 2.11: t21 := binOp
  refine ER.sil rfl rfl rfl rfl (Sil.pickOr rfl rfl rfl) ?_  -- 2.12: t22 := pick
  refine ER.sil rfl rfl rfl rfl (Sil.move rfl) ?_  -- 2.13: t23 := move
  refine ER.silG rfl rfl rfl rfl rfl rfl (fun hc => Sil.fieldAddr Try.underlying24 rfl inf3 rfl) ?_  -- 2.14: t24 := fieldAddr
  refine ER.exG rfl rfl rfl rfl rfl rfl (fun hc => Exa.load flat3 (congrArg some (sel_eq hc _)) ((r2.ext (h3.trans h4)).cell rfl)) ?_  -- 2.15: t25 := load
  refine ER.silG rfl rfl rfl rfl rfl rfl (fun hc => Sil.gtr (congrArg some (sel_eq hc _)) rfl) ?_  -- 2.16: t26 := binOp
  refine ER.sil rfl rfl rfl rfl (Sil.pickOr rfl rfl rfl) ?_  -- 2.17: t27 := pick
  refine ER.sil rfl rfl rfl rfl (Sil.move rfl) ?_  -- 2.18: t28 := move
  refine ER.silG rfl rfl rfl rfl rfl rfl (fun hc => Sil.fieldAddr Try.underlying24 rfl inf3 rfl) ?_  -- 2.19: t29 := fieldAddr
  refine ER.exG rfl rfl rfl rfl rfl rfl (fun hc => Exa.load flat3 (congrArg some (sel_eq hc _)) ((r2.ext (h3.trans h4)).cell rfl)) ?_  -- 2.20: t30 := load
  refine ER.silG rfl rfl rfl rfl rfl rfl (fun hc => Sil.lss (congrArg some (sel_eq hc _)) rfl) ?_  -- 2.21: t31 := binOp
  refine ER.sil rfl rfl rfl rfl (Sil.pickOr rfl rfl rfl) ?_  -- 2.22: t32 := pick
  refine ER.sil rfl rfl rfl rfl (Sil.move rfl) ?_  -- 2.23: t33 := move
  refine ER.silG rfl rfl rfl rfl rfl rfl (fun hc => Sil.fieldAddr Try.underlying24 rfl inf3 rfl) ?_  -- 2.24: t34 := fieldAddr
  refine ER.exG rfl rfl rfl rfl rfl rfl (fun hc => Exa.load flat3 (congrArg some (sel_eq hc _)) ((r2.ext (h3.trans h4)).cell rfl)) ?_  -- 2.25: t35 := load
  refine ER.silG rfl rfl rfl rfl rfl rfl (fun hc => Sil.fieldAddr Try.underlying24 rfl inf3 rfl) ?_  -- 2.26: t36 := fieldAddr
  refine ER.exG rfl rfl rfl rfl rfl rfl (fun hc => Exa.load flat3 (congrArg some (sel_eq hc _)) ((r2.ext (h3.trans h4)).cell rfl)) ?_  -- 2.27: t37 := load
  refine ER.silG rfl rfl rfl rfl rfl rfl (fun hc => Sil.sub rfl (congrArg some (sel_eq hc _))) ?_  -- 2.28: t38 := binOp
  refine ER.silG rfl rfl rfl rfl rfl rfl (fun hc => Sil.gtr (congrArg some (sel_eq hc _)) (congrArg some (sel_eq hc _))) ?_  -- 2.29: t39 := binOp
  refine ER.sil rfl rfl rfl rfl (Sil.pickOr rfl rfl rfl) ?_  -- 2.30: t40 := pick
  refine ER.nil (fun w5 h5 => ?_)
  refine AQ.then ?_
  refine EC.cond rfl (fun hb0 => ?_) (fun hb0 => ?_)  -- cond 0: t40
  ·
    have hb0 : countsBad l s = true := hb0
    refine EC.seq ?_
    -- region 3  law.go:55
    refine EC.region (fun i => [1, 1].getD i 0) [0, 1] rfl ?_
    refine ER.sil rfl rfl rfl rfl (Sil.move rfl) ?_  -- 3.0: t41 := move
    refine ER.sil rfl rfl rfl rfl (Sil.assign rfl) ?_  -- 3.1: t4 := assign
    refine ER.nil (fun w6 h6 => ?_)
    refine AQ.then ?_
    refine EC.ret ?_
    refine AQ.thenRet ?_
    refine AQ.ret1 Try.results5 rfl ?_
    exact ⟨ret_b (show true = lawCounts l s by rw [lawCounts, hb0]; rfl), (((((h1.trans h2).trans h3).trans h4).trans h5).trans h6)⟩
  ·
    have hb0 : countsBad l s = false := hb0
    have hn : l.length ≤ 40 := countsBad_len hb0
    refine EC.skip ?_
    refine AQ.then ?_
    refine EC.seq ?_
    -- region 4  law.go:57
    refine EC.region (fun i => [1, 0, 1].getD i 0) [0, 1, 2] rfl ?_
    refine ER.sil rfl rfl rfl rfl (Sil.move rfl) ?_  -- 4.0: t42 := move
    refine ER.ex rfl rfl rfl rfl (Exa.call fok18 rfl rfl (fun wx hx => (total_any l v wx (hl.ext (((((h1.trans h2).trans h3).trans h4).trans h5).trans hx))))) ?_  -- 4.1: t43 := call
    refine ER.sil rfl rfl rfl rfl (Sil.assign rfl) ?_  -- 4.2: t6 := assign
    refine ER.nil (fun w7 h7 => ?_)
    refine AQ.then ?_
    refine EC.seq ?_
    -- region 5  law.go:58
    refine EC.region (fun i => [1, 0, 2, 0, 1].getD i 0) [0, 1, 2, 3, 4] rfl ?_
    refine ER.sil rfl rfl rfl rfl (Sil.move rfl) ?_  -- 5.0: t44 := move
    refine ER.ex rfl rfl rfl rfl (Exa.loadAgg (vs := spC s) agg24 rfl ((r2.ext (((h3.trans h4).trans h5).trans h7)).at)) ?_  -- 5.1: t45 := load
    refine ER.st rfl rfl rfl rfl (fun w8 h8 => Stp.call fok12 rfl rfl (Calls.mono ((add_any l v s w8 (hl.ext ((((((h1.trans h2).trans h3).trans h4).trans h5).trans h7).trans h8)) (by omega))) ?_))  -- 5.2: t46 := call
    rintro _ w9 ⟨v9, rfl, h9, pa9⟩
    refine ⟨v9, rfl, h9, ?_⟩
    refine ER.ex rfl rfl rfl rfl (Exa.call fok18 rfl rfl (fun wx hx => (total_any _ _ wx ((Spans.of_own pa9).ext hx)))) ?_  -- 5.3: t47 := call
    refine ER.sil rfl rfl rfl rfl (Sil.assign rfl) ?_  -- 5.4: t7 := assign
    refine ER.nil (fun w10 h10 => ?_)
    refine AQ.then ?_
    refine EC.seq ?_
    -- region 6  law.go:59
    refine EC.region (fun i => [1, 0, 2, 0, 1].getD i 0) [0, 1, 2, 3, 4] rfl ?_
    refine ER.sil rfl rfl rfl rfl (Sil.move rfl) ?_  -- 6.0: t48 := move
    refine ER.ex rfl rfl rfl rfl (Exa.loadAgg (vs := spC s) agg24 rfl ((r2.ext ((((((h3.trans h4).trans h5).trans h7).trans h8).trans h9).trans h10)).at)) ?_  -- 6.1: t49 := load
    refine ER.st rfl rfl rfl rfl (fun w11 h11 => Stp.call fok14 rfl rfl (Calls.mono ((cut_any l v s w11 (hl.ext (((((((((h1.trans h2).trans h3).trans h4).trans h5).trans h7).trans h8).trans h9).trans h10).trans h11)) (by omega))) ?_))  -- 6.2: t50 := call
    rintro _ w12 ⟨v12, rfl, h12, pb12⟩
    refine ⟨v12, rfl, h12, ?_⟩
    refine ER.ex rfl rfl rfl rfl (Exa.call fok18 rfl rfl (fun wx hx => (total_any _ _ wx ((Spans.of_own pb12).ext hx)))) ?_  -- 6.3: t51 := call
    refine ER.sil rfl rfl rfl rfl (Sil.assign rfl) ?_  -- 6.4: t8 := assign
    refine ER.nil (fun w13 h13 => ?_)
    refine AQ.then ?_
    refine EC.seq ?_
    -- region 7  law.go:60
    refine EC.region (fun i => [1, 1, 1, 1, 1, 1, 1, 1, 1, 1, 0, 1, 1, 1, 1, 0, 0, 1, 1, 1, 1, 1, 1, 1, 0, 0, 1, 1, 1, 1, 1, 1].getD i 0) [0, 1, 2, 3, 4, 5, 6, 7, 8, 9, 10, 11, 12, 13, 14, 15, 16, 17, 18, 19, 20, 21, 22, 23, 24, 25, 26, 27, 28, 29, 30, 31] rfl ?_
    refine ER.sil rfl rfl rfl rfl (Sil.move rfl) ?_  -- 7.0: t52 := move
    refine ER.sil rfl rfl rfl rfl (Sil.move rfl) ?_  -- 7.1: t53 := move
    refine ER.silG rfl rfl rfl rfl rfl rfl (fun hc => Sil.move rfl) ?_  -- 7.2: t54 := move
    refine ER.silG rfl rfl rfl rfl rfl rfl (fun hc => Sil.move rfl) ?_  -- 7.3: t55 := move
    refine ER.silG rfl rfl rfl rfl rfl rfl (fun hc => Sil.sub (congrArg some (sel_eq hc _)) (congrArg some (sel_eq hc _))) ?_  -- 7.4: t56 := binOp
    refine ER.silG rfl rfl rfl rfl rfl rfl (fun hc => Sil.move rfl) ?_  -- 7.5: t57 := move
    refine ER.silG rfl rfl rfl rfl rfl rfl (fun hc => Sil.add (congrArg some (sel_eq hc _)) (congrArg some (sel_eq hc _))) ?_  -- 7.6: t58 := binOp
    refine ER.silG rfl rfl rfl rfl rfl rfl (fun hc => Sil.move rfl) ?_  -- 7.7: t59 := move
    refine ER.silG rfl rfl rfl rfl rfl rfl (fun hc => Sil.sub (congrArg some (sel_eq hc _)) (congrArg some (sel_eq hc _))) ?_  -- 7.8: t60 := binOp
    refine ER.silG rfl rfl rfl rfl rfl rfl (fun hc => Sil.fieldAddr Try.underlying24 rfl inf3 rfl) ?_  -- 7.9: t61 := fieldAddr
    refine ER.exG rfl rfl rfl rfl rfl rfl (fun hc => Exa.load flat3 (congrArg some (sel_eq hc _)) ((r2.ext (((((((((h3.trans h4).trans h5).trans h7).trans h8).trans h9).trans h10).trans h11).trans h12).trans h13)).cell rfl)) ?_  -- 7.10: t62 := load
    refine ER.silG rfl rfl rfl rfl rfl rfl (fun hc => Sil.eql (congrArg some (sel_eq hc _)) (congrArg some (sel_eq hc _))) ?_  -- 7.11: t63 := binOp
    refine ER.sil rfl rfl rfl rfl (Sil.pickAnd rfl rfl rfl) ?_  -- 7.12: t64 := pick
    refine ER.sil rfl rfl rfl rfl (Sil.move rfl) ?_  -- 7.13: t65 := move
    refine ER.silG rfl rfl rfl rfl rfl rfl (fun hc => Sil.move rfl) ?_  -- 7.14: t66 := move
    refine ER.exG rfl rfl rfl rfl rfl rfl (fun hc => Exa.loadAgg (vs := spC s) agg24 rfl ((r2.ext (((((((((h3.trans h4).trans h5).trans h7).trans h8).trans h9).trans h10).trans h11).trans h12).trans h13)).at)) ?_  -- 7.15: t67 := load
    refine ER.exG rfl rfl rfl rfl rfl rfl (fun hc => Exa.call fok20 rfl (evs_cons (congrArg some (sel_eq hc _)) (evs_cons (congrArg some (sel_eq hc _)) evs_nil)) (fun wx hx => (has_any l v s wx (hl.ext ((((((((((((h1.trans h2).trans h3).trans h4).trans h5).trans h7).trans h8).trans h9).trans h10).trans h11).trans h12).trans h13).trans hx))))) ?_  -- 7.16: t68 := call
    refine ER.silG rfl rfl rfl rfl rfl rfl (fun hc => Sil.move rfl) ?_  -- 7.17: t69 := move
    refine ER.silG rfl rfl rfl rfl rfl rfl (fun hc => Sil.move rfl) ?_  -- 7.18: t70 := move
    refine ER.silG rfl rfl rfl rfl rfl rfl (fun hc => Sil.eql (congrArg some (sel_eq hc _)) (congrArg some (sel_eq hc _))) ?_  -- 7.19: t71 := binOp
    refine ER.silG rfl rfl rfl rfl rfl rfl (fun hc => Sil.beql Try.underlying4 (congrArg some (sel_eq hc _)) (congrArg some (sel_eq hc _))) ?_  -- 7.20: t72 := binOp
    refine ER.sil rfl rfl rfl rfl (Sil.pickAnd rfl rfl rfl) ?_  -- 7.21: t73 := pick
    refine ER.sil rfl rfl rfl rfl (Sil.move rfl) ?_  -- 7.22: t74 := move
    refine ER.silG rfl rfl rfl rfl rfl rfl (fun hc => Sil.move rfl) ?_  -- 7.23: t75 := move
    refine ER.exG rfl rfl rfl rfl rfl rfl (fun hc => Exa.loadAgg (vs := spC s) agg24 rfl ((r2.ext (((((((((h3.trans h4).trans h5).trans h7).trans h8).trans h9).trans h10).trans h11).trans h12).trans h13)).at)) ?_  -- 7.24: t76 := load
    refine ER.exG rfl rfl rfl rfl rfl rfl (fun hc => Exa.call fok22 rfl (evs_cons (congrArg some (sel_eq hc _)) (evs_cons (congrArg some (sel_eq hc _)) evs_nil)) (fun wx hx => (meets_any l v s wx (hl.ext ((((((((((((h1.trans h2).trans h3).trans h4).trans h5).trans h7).trans h8).trans h9).trans h10).trans h11).trans h12).trans h13).trans hx))))) ?_  -- 7.25: t77 := call
    refine ER.silG rfl rfl rfl rfl rfl rfl (fun hc => Sil.move rfl) ?_  -- 7.26: t78 := move
    refine ER.silG rfl rfl rfl rfl rfl rfl (fun hc => Sil.move rfl) ?_  -- 7.27: t79 := move
    refine ER.silG rfl rfl rfl rfl rfl rfl (fun hc => Sil.lss (congrArg some (sel_eq hc _)) (congrArg some (sel_eq hc _))) ?_  -- 7.28: t80 := binOp
    refine ER.silG rfl rfl rfl rfl rfl rfl (fun hc => Sil.beql Try.underlying4 (congrArg some (sel_eq hc _)) (congrArg some (sel_eq hc _))) ?_  -- 7.29: t81 := binOp
    refine ER.sil rfl rfl rfl rfl (Sil.pickAnd rfl rfl rfl) ?_  -- 7.30: t82 := pick
    refine ER.sil rfl rfl rfl rfl (Sil.assign rfl) ?_  -- 7.31: t4 := assign
    refine ER.nil (fun w14 h14 => ?_)
    refine AQ.then ?_
    refine EC.ret ?_
    refine AQ.ret1 Try.results5 rfl ?_
    exact ⟨ret_b (show countsGo l s = lawCounts l s by rw [lawCounts, hb0]; rfl), ((((((((((((h1.trans h2).trans h3).trans h4).trans h5).trans h7).trans h8).trans h9).trans h10).trans h11).trans h12).trans h13).trans h14)⟩

end Go.Proofs.Ytnnmeipmkfbpdaa
