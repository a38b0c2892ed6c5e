/- Room: RoomFits. -/
import Derived.Test.YtnnmeipmkfbpdaaW12
namespace Go.Proofs.Ytnnmeipmkfbpdaa
open Go.RowKit Go.XK Go.RoomLaw

theorem fitsBad_len {l : List Sp} {size align : Int} (h : fitsBad l size align = false) : l.length ≤ 400 := by
  simp only [fitsBad, Bool.or_eq_false_iff] at h
  have := of_decide_eq_false h.1.1.1.1.1
  omega
theorem fitsBad_al {l : List Sp} {size align : Int} (h : fitsBad l size align = false) : align ≠ 0 := by
  simp only [fitsBad, Bool.or_eq_false_iff] at h
  have := of_decide_eq_false h.1.2
  omega

-- linchpin/linchpinlaw04.RoomFits: parameters ['[]api.Span', 'int', 'int', 'int', 'int', 'int'] (free 0), results [('ResultVar.tmp', 12)], 164 slots
theorem fits_any (l : List Sp) (v : Value) (size align from_ until_ n : Int) (w : World) (hl : Spans w v l) :
    Calls Try.prog 7 [v, .int .i64 size, .int .i64 align, .int .i64 from_, .int .i64 until_, .int .i64 n].toArray w fun e w' => e = .returned (.bool (lawFits l size align from_ until_ n)) ∧ Ext w w' := by
  refine calls_of Try.func7 rfl Try.ntmps7 rfl ?_
  refine EC.seq ?_
  -- region 0  law.go:89
  refine EC.region (fun i => [1].getD i 0) [0] rfl ?_
  refine ER.sil rfl rfl rfl rfl (Sil.assign rfl) ?_  -- 0.0: t12 := assign
  refine ER.nil (fun w1 h1 => ?_)
  refine AQ.then ?_
  refine EC.seq ?_
  -- region 1  law.go:90
  refine EC.region (fun i => [0, 1].getD i 0) [0, 1] rfl ?_
  refine ER.ex rfl rfl rfl rfl (Exa.call fok8 rfl rfl (fun wx hx => (small_any wx))) ?_  -- 1.0: t20 := call
  refine ER.sil rfl rfl rfl rfl (Sil.assign rfl) ?_  -- 1.1: t13 := assign
  refine ER.nil (fun w2 h2 => ?_)
  refine AQ.then ?_
  refine EC.seq ?_
  refine EC.seq ?_
  -- region 2  law.go:91
  refine EC.region (fun i => [1, 1, 1, 1, 1, 0, 1, 1, 1, 1, 1, 1, 1, 1, 1, 1, 1, 1, 1, 1, 1, 1, 1, 1].getD i 0) [0, 1, 2, 3, 4, 5, 6, 7, 8, 9, 10, 11, 12, 13, 14, 15, 16, 17, 18, 19, 20, 21, 22, 23] rfl ?_
  refine ER.sil rfl rfl rfl rfl (Sil.move rfl) ?_  -- 2.0: t21 := move
  refine ER.sil rfl rfl rfl rfl (Sil.lenR Try.underlying22 rfl (Reads.isS hl)) ?_  -- 2.1: t22 := call
  refine ER.sil rfl rfl rfl rfl (Sil.gtr rfl rfl) ?_  -- 2.2: t23 := binOp
  refine ER.sil rfl rfl rfl rfl (Sil.move rfl) ?_  -- 2.3: t24 := move
  refine ER.silG rfl rfl rfl rfl rfl rfl (fun hc => Sil.move rfl) ?_  -- 2.4: t25 := move
  refine ER.exG rfl rfl rfl rfl rfl rfl (fun hc => Exa.call fok16 rfl (evs_cons (congrArg some (sel_eq hc _)) evs_nil) (fun wx hx => (right_any l v wx (hl.ext ((h1.trans h2).trans hx))))) ?_  -- 2.5: t26 := call
  refine ER.silG rfl rfl rfl rfl rfl rfl (fun hc => Sil.not (congrArg some (sel_eq hc _))) ?_  -- 2.6: t27 := unOp
  refine ER.sil rfl rfl rfl rfl (Sil.pickOr rfl rfl rfl) ?_  -- 2.7: t28 := pick
  refine ER.sil rfl rfl rfl rfl (Sil.move rfl) ?_  -- 2.8: t29 := move
  refine ER.silG rfl rfl rfl rfl rfl rfl (fun hc => Sil.move rfl) ?_  -- 2.9: t30 := move
  refine ER.silG rfl rfl rfl rfl rfl rfl (fun hc => Sil.lss (congrArg some (sel_eq hc _)) rfl) ?_  -- 2.10: t31 := binOp
  refine ER.sil rfl rfl rfl rfl (Sil.pickOr rfl rfl rfl) ?_  -- 2.11: t32 := pick
  refine ER.sil rfl rfl rfl rfl (Sil.move rfl) ?_  -- 2.12: t33 := move
  refine ER.silG rfl rfl rfl rfl rfl rfl (fun hc => Sil.move rfl) ?_  -- 2.13: t34 := move
  refine ER.silG rfl rfl rfl rfl rfl rfl (fun hc => Sil.gtr (congrArg some (sel_eq hc _)) rfl) ?_  -- 2.14: t35 := binOp
  refine ER.sil rfl rfl rfl rfl (Sil.pickOr rfl rfl rfl) ?_  -- 2.15: t36 := pick
  refine ER.sil rfl rfl rfl rfl (Sil.move rfl) ?_  -- 2.16: t37 := move
  refine ER.silG rfl rfl rfl rfl rfl rfl (fun hc => Sil.move rfl) ?_  -- 2.17: t38 := move
  refine ER.silG rfl rfl rfl rfl rfl rfl (fun hc => Sil.lss (congrArg some (sel_eq hc _)) rfl) ?_  -- 2.18: t39 := binOp
  refine ER.sil rfl rfl rfl rfl (Sil.pickOr rfl rfl rfl) ?_  -- 2.19: t40 := pick
  refine ER.sil rfl rfl rfl rfl (Sil.move rfl) ?_  -- 2.20: t41 := move
  refine ER.silG rfl rfl rfl rfl rfl rfl (fun hc => Sil.move rfl) ?_  -- 2.21: t42 := move
  refine ER.silG rfl rfl rfl rfl rfl rfl (fun hc => Sil.gtr (congrArg some (sel_eq hc _)) rfl) ?_  -- 2.22: t43 := binOp
  refine ER.sil rfl rfl rfl rfl (Sil.pickOr rfl rfl rfl) ?_  -- 2.23: t44 := pick
  refine ER.nil (fun w3 h3 => ?_)
  refine AQ.then ?_
  refine EC.cond rfl (fun hb0 => ?_) (fun hb0 => ?_)  -- cond 0: t44
  ·
    have hb0 : fitsBad l size align = true := hb0
    refine EC.seq ?_
    -- region 3  law.go:92
    refine EC.region (fun i => [1, 1].getD i 0) [0, 1] rfl ?_
    refine ER.sil rfl rfl rfl rfl (Sil.move rfl) ?_  -- 3.0: t45 := move
    refine ER.sil rfl rfl rfl rfl (Sil.assign rfl) ?_  -- 3.1: t12 := assign
    refine ER.nil (fun w4 h4 => ?_)
    refine AQ.then ?_
    refine EC.ret ?_
    refine AQ.thenRet ?_
    refine AQ.ret1 Try.results7 rfl ?_
    exact ⟨ret_b (show true = lawFits l size align from_ until_ n by rw [lawFits, hb0]; rfl), (((h1.trans h2).trans h3).trans h4)⟩
  ·
    have hb0 : fitsBad l size align = false := hb0
    have hal : align ≠ 0 := fitsBad_al hb0
    refine EC.skip ?_
    refine AQ.then ?_
    refine EC.seq ?_
    -- region 4  law.go:94
    refine EC.region (fun i => [1, 1, 1, 1, 1, 0, 1, 1, 1, 1, 1].getD i 0) [0, 1, 2, 3, 4, 5, 6, 7, 8, 9, 10] rfl ?_
    refine ER.sil rfl rfl rfl rfl (Sil.move rfl) ?_  -- 4.0: t47 := move
    refine ER.sil rfl rfl rfl rfl (Sil.move rfl) ?_  -- 4.1: t48 := move
    refine ER.sil rfl rfl rfl rfl (Sil.move rfl) ?_  -- 4.2: t49 := move
    refine ER.sil rfl rfl rfl rfl (Sil.move rfl) ?_  -- 4.3: t50 := move
    refine ER.sil rfl rfl rfl rfl (Sil.move rfl) ?_  -- 4.4: t51 := move
    refine ER.ex rfl rfl rfl rfl (Exa.call fok9 rfl rfl (fun wx hx => (fit_any l v wx (hl.ext (((h1.trans h2).trans h3).trans hx)) size align from_ until_))) ?_  -- 4.5: t52 := call
    refine ER.sil rfl rfl rfl rfl (Sil.move rfl) ?_  -- 4.6: t46 := move
    refine ER.sil rfl rfl rfl rfl (Sil.extract rfl rfl) ?_  -- 4.7: t53 := extract
    refine ER.sil rfl rfl rfl rfl (Sil.extract rfl rfl) ?_  -- 4.8: t54 := extract
    refine ER.sil rfl rfl rfl rfl (Sil.assign rfl) ?_  -- 4.9: t14 := assign
    refine ER.sil rfl rfl rfl rfl (Sil.assign rfl) ?_  -- 4.10: t15 := assign
    refine ER.nil (fun w5 h5 => ?_)
    refine AQ.then ?_
    refine EC.seq ?_
    refine EC.seq ?_
    -- region 5  law.go:95
    refine EC.region (fun i => [1, 1, 1, 1, 1, 1].getD i 0) [0, 1, 2, 3, 4, 5] rfl ?_
    refine ER.sil rfl rfl rfl rfl (Sil.move rfl) ?_  -- 5.0: t55 := move
    refine ER.sil rfl rfl rfl rfl (Sil.not rfl) ?_  -- 5.1: t56 := unOp
    refine ER.sil rfl rfl rfl rfl (Sil.move rfl) ?_  -- 5.2: t57 := move
    refine ER.silG rfl rfl rfl rfl rfl rfl (fun hc => Sil.move rfl) ?_  -- 5.3: t58 := move
    refine ER.silG rfl rfl rfl rfl rfl rfl (fun hc => Sil.neq (congrArg some (sel_eq hc _)) rfl) ?_  -- 5.4: t59 := binOp
    refine ER.sil rfl rfl rfl rfl (Sil.pickAnd rfl rfl rfl) ?_  -- 5.5: t60 := pick
    refine ER.nil (fun w6 h6 => ?_)
    refine AQ.then ?_
    refine EC.cond rfl (fun hb1 => ?_) (fun hb1 => ?_)  -- cond 1: t60
    ·
      have hb1 : fitsC1 (fitB l size align from_ until_) = true := hb1
      refine EC.seq ?_
      -- region 6  law.go:96
      refine EC.region (fun i => [1].getD i 0) [0] rfl ?_
      refine ER.sil rfl rfl rfl rfl (Sil.assign rfl) ?_  -- 6.0: t12 := assign
      refine ER.nil (fun w7 h7 => ?_)
      refine AQ.then ?_
      refine EC.ret ?_
      refine AQ.thenRet ?_
      refine AQ.ret1 Try.results7 rfl ?_
      exact ⟨ret_b (show false = lawFits l size align from_ until_ n by simp only [lawFits, fitsGo, hb0, hb1, cond_false, cond_true]), (((((h1.trans h2).trans h3).trans h5).trans h6).trans h7)⟩
    ·
      have hb1 : fitsC1 (fitB l size align from_ until_) = false := hb1
      refine EC.skip ?_
      refine AQ.then ?_
      refine EC.seq ?_
      refine EC.seq ?_
      -- region 7  law.go:98
      refine EC.region (fun i => [1, 1, 1, 1, 1, 1, 1, 1, 1, 1, 1, 1, 1, 1, 1, 1, 1, 1, 1, 1, 1, 1, 1, 1, 0, 1, 1, 1].getD i 0) [0, 1, 2, 3, 4, 5, 6, 7, 8, 9, 10, 11, 12, 13, 14, 15, 16, 17, 18, 19, 20, 21, 22, 23, 24, 25, 26, 27] rfl ?_
      refine ER.sil rfl rfl rfl rfl (Sil.move rfl) ?_  -- 7.0: t61 := move
      refine ER.sil rfl rfl rfl rfl (Sil.move rfl) ?_  -- 7.1: t62 := move
      refine ER.silG rfl rfl rfl rfl rfl rfl (fun hc => Sil.move rfl) ?_  -- 7.2: t63 := move
      refine ER.silG rfl rfl rfl rfl rfl rfl (fun hc => Sil.move rfl) ?_  -- 7.3: t64 := move
      refine ER.silG rfl rfl rfl rfl rfl rfl (fun hc => Sil.rem (congrArg some (sel_eq hc _)) (congrArg some (sel_eq hc _)) (hal)) ?_  -- 7.4: t65 := binOp
      refine ER.silG rfl rfl rfl rfl rfl rfl (fun hc => Sil.neq (congrArg some (sel_eq hc _)) rfl) ?_  -- 7.5: t66 := binOp
      refine ER.silG rfl rfl rfl rfl rfl rfl (fun hc => Sil.move (congrArg some (sel_eq hc _))) ?_  -- 7.6: t67 := move
      refine ER.silGG rfl rfl rfl rfl rfl rfl (fun hp hc => Sil.move rfl) ?_  -- 7.7: t68 := move
      refine ER.silGG rfl rfl rfl rfl rfl rfl (fun hp hc => Sil.move rfl) ?_  -- 7.8: t69 := move
      refine ER.silGG rfl rfl rfl rfl rfl rfl (fun hp hc => Sil.max rfl (congrArg some (sel_2 hp hc _))) ?_  -- 7.9: t70 := call
      refine ER.silGG rfl rfl rfl rfl rfl rfl (fun hp hc => Sil.lss (congrArg some (sel_2 hp hc _)) (congrArg some (sel_2 hp hc _))) ?_  -- 7.10: t71 := binOp
      refine ER.silG rfl rfl rfl rfl rfl rfl (fun hc => Sil.pickOr (congrArg some (sel_eq hc _)) rfl (congrArg some (sel_in hc _ _))) ?_  -- 7.11: t72 := pick
      refine ER.silG rfl rfl rfl rfl rfl rfl (fun hc => Sil.move (congrArg some (sel_eq hc _))) ?_  -- 7.12: t73 := move
      refine ER.silGG rfl rfl rfl rfl rfl rfl (fun hp hc => Sil.move rfl) ?_  -- 7.13: t74 := move
      refine ER.silGG rfl rfl rfl rfl rfl rfl (fun hp hc => Sil.move rfl) ?_  -- 7.14: t75 := move
      refine ER.silGG rfl rfl rfl rfl rfl rfl (fun hp hc => Sil.add (congrArg some (sel_2 hp hc _)) (congrArg some (sel_2 hp hc _))) ?_  -- 7.15: t76 := binOp
      refine ER.silGG rfl rfl rfl rfl rfl rfl (fun hp hc => Sil.move rfl) ?_  -- 7.16: t77 := move
      refine ER.silGG rfl rfl rfl rfl rfl rfl (fun hp hc => Sil.gtr (congrArg some (sel_2 hp hc _)) (congrArg some (sel_2 hp hc _))) ?_  -- 7.17: t78 := binOp
      refine ER.silG rfl rfl rfl rfl rfl rfl (fun hc => Sil.pickOr (congrArg some (sel_eq hc _)) rfl (congrArg some (sel_in hc _ _))) ?_  -- 7.18: t79 := pick
      refine ER.silG rfl rfl rfl rfl rfl rfl (fun hc => Sil.move (congrArg some (sel_eq hc _))) ?_  -- 7.19: t80 := move
      refine ER.silGG rfl rfl rfl rfl rfl rfl (fun hp hc => Sil.move rfl) ?_  -- 7.20: t81 := move
      refine ER.silGG rfl rfl rfl rfl rfl rfl (fun hp hc => Sil.move rfl) ?_  -- 7.21: t82 := move
      refine ER.silGG rfl rfl rfl rfl rfl rfl (fun hp hc => Sil.move rfl) ?_  -- 7.22: t83 := move
      refine ER.silGG rfl rfl rfl rfl rfl rfl (fun hp hc => Sil.build (pevs_cons (congrArg some (sel_2 hp hc _)) (pevs_cons (congrArg some (sel_2 hp hc _)) pevs_nil)) rfl) ?_  -- 7.23: t84 := build
      refine ER.exGG rfl rfl rfl rfl rfl rfl (fun hp hc => Exa.call fok20 rfl (evs_cons (congrArg some (sel_2 hp hc _)) (evs_cons (congrArg some (sel_2 hp hc _)) evs_nil)) (fun wx hx => (has_any l v ((fitB l size align from_ until_).1, size) wx (hl.ext (((((h1.trans h2).trans h3).trans h5).trans h6).trans hx))))) ?_  -- 7.24: t85 := call
      refine ER.silGG rfl rfl rfl rfl rfl rfl (fun hp hc => Sil.not (congrArg some (sel_2 hp hc _))) ?_  -- 7.25: t86 := unOp
      refine ER.silG rfl rfl rfl rfl rfl rfl (fun hc => Sil.pickOr (congrArg some (sel_eq hc _)) rfl (congrArg some (sel_in hc _ _))) ?_  -- 7.26: t87 := pick
      refine ER.sil rfl rfl rfl rfl (Sil.pickAnd rfl rfl rfl) ?_  -- 7.27: t88 := pick
      refine ER.nil (fun w8 h8 => ?_)
      refine AQ.then ?_
      refine EC.cond rfl (fun hb2 => ?_) (fun hb2 => ?_)  -- cond 2: t88
      ·
        have hb2 : fitsC2 l (fitB l size align from_ until_) size align from_ until_ = true := hb2
        refine EC.seq ?_
        -- region 8  law.go:99
        refine EC.region (fun i => [1].getD i 0) [0] rfl ?_
        refine ER.sil rfl rfl rfl rfl (Sil.assign rfl) ?_  -- 8.0: t12 := assign
        refine ER.nil (fun w9 h9 => ?_)
        refine AQ.then ?_
        refine EC.ret ?_
        refine AQ.thenRet ?_
        refine AQ.ret1 Try.results7 rfl ?_
        exact ⟨ret_b (show false = lawFits l size align from_ until_ n by simp only [lawFits, fitsGo, hb0, hb1, hb2, cond_false, cond_true]), ((((((h1.trans h2).trans h3).trans h5).trans h6).trans h8).trans h9)⟩
      ·
        have hb2 : fitsC2 l (fitB l size align from_ until_) size align from_ until_ = false := hb2
        refine EC.skip ?_
        refine AQ.then ?_
        refine EC.seq ?_
        refine EC.seq ?_
        -- region 9  law.go:101
        refine EC.region (fun i => [1, 1, 1, 1, 1, 1, 1, 1].getD i 0) [0, 1, 2, 3, 4, 5, 6, 7] rfl ?_
        refine ER.sil rfl rfl rfl rfl (Sil.move rfl) ?_  -- 9.0: t89 := move
        refine ER.sil rfl rfl rfl rfl (Sil.geq rfl rfl) ?_  -- 9.1: t90 := binOp
        refine ER.sil rfl rfl rfl rfl (Sil.move rfl) ?_  -- 9.2: t91 := move
        refine ER.silG rfl rfl rfl rfl rfl rfl (fun hc => Sil.move rfl) ?_  -- 9.3: t92 := move
        refine ER.silG rfl rfl rfl rfl rfl rfl (fun hc => Sil.move rfl) ?_  -- 9.4: t93 := move
        refine ER.silG rfl rfl rfl rfl rfl rfl (fun hc => Sil.quo rfl (congrArg some (sel_eq hc _)) (hal)) ?_  -- 9.5: t94 := binOp
        refine ER.silG rfl rfl rfl rfl rfl rfl (fun hc => Sil.leq (congrArg some (sel_eq hc _)) (congrArg some (sel_eq hc _))) ?_  -- 9.6: t95 := binOp
        refine ER.sil rfl rfl rfl rfl (Sil.pickAnd rfl rfl rfl) ?_  -- 9.7: t96 := pick
        refine ER.nil (fun w10 h10 => ?_)
        refine AQ.then ?_
        refine EC.cond rfl (fun hb3 => ?_) (fun hb3 => ?_)  -- cond 3: t96
        ·
          have hb3 : fitsC3 align n = true := hb3
          refine EC.seq ?_
          -- region 10  law.go:102
          refine EC.region (fun i => [1, 1, 1, 1].getD i 0) [0, 1, 2, 3] rfl ?_
          refine ER.sil rfl rfl rfl rfl (Sil.move rfl) ?_  -- 10.0: t97 := move
          refine ER.sil rfl rfl rfl rfl (Sil.move rfl) ?_  -- 10.1: t98 := move
          refine ER.sil rfl rfl rfl rfl (Sil.mul rfl rfl) ?_  -- 10.2: t99 := binOp
          refine ER.sil rfl rfl rfl rfl (Sil.assign rfl) ?_  -- 10.3: t16 := assign
          refine ER.nil (fun w11 h11 => ?_)
          refine AQ.then ?_
          refine EC.seq ?_
          -- region 11  law.go:103
          refine EC.region (fun i => [1, 1, 1, 1, 1, 1, 1, 1, 1, 1, 1, 1, 1, 1, 1, 1, 1, 1, 1, 1].getD i 0) [0, 1, 2, 3, 4, 5, 6, 7, 8, 9, 10, 11, 12, 13, 14, 15, 16, 17, 18, 19] rfl ?_
          refine ER.sil rfl rfl rfl rfl (Sil.move rfl) ?_  -- 11.0: t100 := move
          refine ER.sil rfl rfl rfl rfl (Sil.move rfl) ?_  -- 11.1: t101 := move
          refine ER.sil rfl rfl rfl rfl (Sil.geq rfl rfl) ?_  -- 11.2: t102 := binOp
          refine ER.sil rfl rfl rfl rfl (Sil.move rfl) ?_  -- 11.3: t103 := move
          refine ER.silG rfl rfl rfl rfl rfl rfl (fun hc => Sil.move rfl) ?_  -- 11.4: t104 := move
          refine ER.silG rfl rfl rfl rfl rfl rfl (fun hc => Sil.move rfl) ?_  -- 11.5: t105 := move
          refine ER.silG rfl rfl rfl rfl rfl rfl (fun hc => Sil.move rfl) ?_  -- 11.6: t106 := move
          refine ER.silG rfl rfl rfl rfl rfl rfl (fun hc => Sil.sub (congrArg some (sel_eq hc _)) (congrArg some (sel_eq hc _))) ?_  -- 11.7: t107 := binOp
          refine ER.silG rfl rfl rfl rfl rfl rfl (fun hc => Sil.leq (congrArg some (sel_eq hc _)) (congrArg some (sel_eq hc _))) ?_  -- 11.8: t108 := binOp
          refine ER.sil rfl rfl rfl rfl (Sil.pickAnd rfl rfl rfl) ?_  -- 11.9: t109 := pick
          refine ER.sil rfl rfl rfl rfl (Sil.move rfl) ?_  -- 11.10: t110 := move
          refine ER.silG rfl rfl rfl rfl rfl rfl (fun hc => Sil.move rfl) ?_  -- 11.11: t111 := move
          refine ER.silG rfl rfl rfl rfl rfl rfl (fun hc => Sil.leq (congrArg some (sel_eq hc _)) rfl) ?_  -- 11.12: t112 := binOp
          refine ER.sil rfl rfl rfl rfl (Sil.pickAnd rfl rfl rfl) ?_  -- 11.13: t113 := pick
          refine ER.sil rfl rfl rfl rfl (Sil.move rfl) ?_  -- 11.14: t114 := move
          refine ER.silG rfl rfl rfl rfl rfl rfl (fun hc => Sil.move rfl) ?_  -- 11.15: t115 := move
          refine ER.silG rfl rfl rfl rfl rfl rfl (fun hc => Sil.move rfl) ?_  -- 11.16: t116 := move
          refine ER.silG rfl rfl rfl rfl rfl rfl (fun hc => Sil.geq (congrArg some (sel_eq hc _)) (congrArg some (sel_eq hc _))) ?_  -- 11.17: t117 := binOp
          refine ER.sil rfl rfl rfl rfl (Sil.pickAnd rfl rfl rfl) ?_  -- 11.18: t118 := pick
          refine ER.sil rfl rfl rfl rfl (Sil.assign rfl) ?_  -- 11.19: t17 := assign
          refine ER.nil (fun w12 h12 => ?_)
          refine AQ.then ?_
          refine EC.seq ?_
          -- region 12  law.go:104
          refine EC.region (fun i => [1, 1, 1, 1, 1, 1, 1, 1, 1, 1, 1, 1, 1, 1, 1, 0, 1].getD i 0) [0, 1, 2, 3, 4, 5, 6, 7, 8, 9, 10, 11, 12, 13, 14, 15, 16] rfl ?_
          refine ER.sil rfl rfl rfl rfl (Sil.move rfl) ?_  -- 12.0: t119 := move
          refine ER.sil rfl rfl rfl rfl (Sil.move rfl) ?_  -- 12.1: t120 := move
          refine ER.silG rfl rfl rfl rfl rfl rfl (fun hc => Sil.move rfl) ?_  -- 12.2: t121 := move
          refine ER.silG rfl rfl rfl rfl rfl rfl (fun hc => Sil.not (congrArg some (sel_eq hc _))) ?_  -- 12.3: t122 := unOp
          refine ER.silG rfl rfl rfl rfl rfl rfl (fun hc => Sil.move (congrArg some (sel_eq hc _))) ?_  -- 12.4: t123 := move
          refine ER.silGG rfl rfl rfl rfl rfl rfl (fun hp hc => Sil.move rfl) ?_  -- 12.5: t124 := move
          refine ER.silGG rfl rfl rfl rfl rfl rfl (fun hp hc => Sil.move rfl) ?_  -- 12.6: t125 := move
          refine ER.silGG rfl rfl rfl rfl rfl rfl (fun hp hc => Sil.lss (congrArg some (sel_2 hp hc _)) (congrArg some (sel_2 hp hc _))) ?_  -- 12.7: t126 := binOp
          refine ER.silG rfl rfl rfl rfl rfl rfl (fun hc => Sil.pickOr (congrArg some (sel_eq hc _)) rfl (congrArg some (sel_in hc _ _))) ?_  -- 12.8: t127 := pick
          refine ER.sil rfl rfl rfl rfl (Sil.pickAnd rfl rfl rfl) ?_  -- 12.9: t128 := pick
          refine ER.sil rfl rfl rfl rfl (Sil.move rfl) ?_  -- 12.10: t129 := move
          refine ER.silG rfl rfl rfl rfl rfl rfl (fun hc => Sil.move rfl) ?_  -- 12.11: t130 := move
          refine ER.silG rfl rfl rfl rfl rfl rfl (fun hc => Sil.move rfl) ?_  -- 12.12: t131 := move
          refine ER.silG rfl rfl rfl rfl rfl rfl (fun hc => Sil.move rfl) ?_  -- 12.13: t132 := move
          refine ER.silG rfl rfl rfl rfl rfl rfl (fun hc => Sil.build (pevs_cons (congrArg some (sel_eq hc _)) (pevs_cons (congrArg some (sel_eq hc _)) pevs_nil)) rfl) ?_  -- 12.14: t133 := build
          refine ER.exG rfl rfl rfl rfl rfl rfl (fun hc => Exa.call fok20 rfl (evs_cons (congrArg some (sel_eq hc _)) (evs_cons (congrArg some (sel_eq hc _)) evs_nil)) (fun wx hx => (has_any l v (RoomLaw.w64 (n * align), size) wx (hl.ext (((((((((h1.trans h2).trans h3).trans h5).trans h6).trans h8).trans h10).trans h11).trans h12).trans hx))))) ?_  -- 12.15: t134 := call
          refine ER.sil rfl rfl rfl rfl (Sil.pickAnd rfl rfl rfl) ?_  -- 12.16: t135 := pick
          refine ER.nil (fun w13 h13 => ?_)
          refine AQ.then ?_
          refine EC.cond rfl (fun hb4 => ?_) (fun hb4 => ?_)  -- cond 4: t135
          ·
            have hb4 : fitsC4 l (fitB l size align from_ until_) (RoomLaw.w64 (n * align)) size from_ until_ = true := hb4
            refine EC.seq ?_
            -- region 13  law.go:105
            refine EC.region (fun i => [1].getD i 0) [0] rfl ?_
            refine ER.sil rfl rfl rfl rfl (Sil.assign rfl) ?_  -- 13.0: t12 := assign
            refine ER.nil (fun w14 h14 => ?_)
            refine AQ.then ?_
            refine EC.ret ?_
            refine AQ.thenRet ?_
            refine AQ.ret1 Try.results7 rfl ?_
            exact ⟨ret_b (show false = lawFits l size align from_ until_ n by simp only [lawFits, fitsGo, hb0, hb1, hb2, hb3, hb4, Bool.and_true, cond_false, cond_true]), ((((((((((h1.trans h2).trans h3).trans h5).trans h6).trans h8).trans h10).trans h11).trans h12).trans h13).trans h14)⟩
          ·
            have hb4 : fitsC4 l (fitB l size align from_ until_) (RoomLaw.w64 (n * align)) size from_ until_ = false := hb4
            refine EC.skip ?_
            refine AQ.then ?_
            refine EC.seq ?_
            refine EC.seq ?_
            -- region 14  law.go:108
            refine EC.region (fun i => [1, 1].getD i 0) [0, 1] rfl ?_
            refine ER.sil rfl rfl rfl rfl (Sil.move rfl) ?_  -- 14.0: t136 := move
            refine ER.sil rfl rfl rfl rfl (Sil.not rfl) ?_  -- 14.1: t137 := unOp
            refine ER.nil (fun w15 h15 => ?_)
            refine AQ.then ?_
            refine EC.cond rfl (fun hb5 => ?_) (fun hb5 => ?_)  -- cond 5: t137
            ·
              have hb5 : (!(fitB l size align from_ until_).2) = true := hb5
              refine EC.seq ?_
              -- region 15  law.go:109
              refine EC.region (fun i => [1, 1].getD i 0) [0, 1] rfl ?_
              refine ER.sil rfl rfl rfl rfl (Sil.move rfl) ?_  -- 15.0: t138 := move
              refine ER.sil rfl rfl rfl rfl (Sil.assign rfl) ?_  -- 15.1: t12 := assign
              refine ER.nil (fun w16 h16 => ?_)
              refine AQ.then ?_
              refine EC.ret ?_
              refine AQ.thenRet ?_
              refine AQ.ret1 Try.results7 rfl ?_
              exact ⟨ret_b (show true = lawFits l size align from_ until_ n by simp only [lawFits, fitsGo, hb0, hb1, hb2, hb3, hb4, hb5, Bool.and_false, cond_false, cond_true]), (((((((((((h1.trans h2).trans h3).trans h5).trans h6).trans h8).trans h10).trans h11).trans h12).trans h13).trans h15).trans h16)⟩
            ·
              have hb5 : (!(fitB l size align from_ until_).2) = false := hb5
              refine EC.skip ?_
              refine AQ.then ?_
              refine EC.seq ?_
              -- region 16  law.go:111
              refine EC.region (fun i => [1, 1, 1, 1, 2, 1, 1, 1, 1, 0, 1, 1, 1, 1, 1].getD i 0) [0, 1, 2, 3, 4, 5, 6, 7, 8, 9, 10, 11, 12, 13, 14] rfl ?_
              refine ER.sil rfl rfl rfl rfl (Sil.move rfl) ?_  -- 16.0: t140 := move
              refine ER.sil rfl rfl rfl rfl (Sil.move rfl) ?_  -- 16.1: t141 := move
              refine ER.sil rfl rfl rfl rfl (Sil.move rfl) ?_  -- 16.2: t142 := move
              refine ER.sil rfl rfl rfl rfl (Sil.build rfl rfl) ?_  -- 16.3: t143 := build
              refine ER.st rfl rfl rfl rfl (fun w17 h17 => Stp.call fok14 rfl rfl (Calls.mono ((cut_any l v ((fitB l size align from_ until_).1, size) w17 (hl.ext (((((((((((h1.trans h2).trans h3).trans h5).trans h6).trans h8).trans h10).trans h11).trans h12).trans h13).trans h15).trans h17)) (fitsBad_len hb0))) ?_))  -- 16.4: t144 := call
              rintro _ w18 ⟨v18, rfl, h18, pa18⟩
              refine ⟨v18, rfl, h18, ?_⟩
              refine ER.sil rfl rfl rfl rfl (Sil.move rfl) ?_  -- 16.5: t145 := move
              refine ER.sil rfl rfl rfl rfl (Sil.move rfl) ?_  -- 16.6: t146 := move
              refine ER.sil rfl rfl rfl rfl (Sil.move rfl) ?_  -- 16.7: t147 := move
              refine ER.sil rfl rfl rfl rfl (Sil.move rfl) ?_  -- 16.8: t148 := move
              refine ER.ex rfl rfl rfl rfl (Exa.call fok9 rfl rfl (fun wx hx => (fit_any _ _ wx ((Spans.of_own pa18).ext hx) size align from_ until_))) ?_  -- 16.9: t149 := call
              refine ER.sil rfl rfl rfl rfl (Sil.move rfl) ?_  -- 16.10: t139 := move
              refine ER.sil rfl rfl rfl rfl (Sil.extract rfl rfl) ?_  -- 16.11: t150 := extract
              refine ER.sil rfl rfl rfl rfl (Sil.extract rfl rfl) ?_  -- 16.12: t151 := extract
              refine ER.sil rfl rfl rfl rfl (Sil.assign rfl) ?_  -- 16.13: t18 := assign
              refine ER.sil rfl rfl rfl rfl (Sil.assign rfl) ?_  -- 16.14: t19 := assign
              refine ER.nil (fun w19 h19 => ?_)
              refine AQ.then ?_
              refine EC.seq ?_
              -- region 17  law.go:112
              refine EC.region (fun i => [1, 1, 1, 1, 1, 1, 1, 1, 1, 1, 1, 1, 1].getD i 0) [0, 1, 2, 3, 4, 5, 6, 7, 8, 9, 10, 11, 12] rfl ?_
              refine ER.sil rfl rfl rfl rfl (Sil.move rfl) ?_  -- 17.0: t152 := move
              refine ER.sil rfl rfl rfl rfl (Sil.move rfl) ?_  -- 17.1: t153 := move
              refine ER.silG rfl rfl rfl rfl rfl rfl (fun hc => Sil.move rfl) ?_  -- 17.2: t154 := move
              refine ER.silG rfl rfl rfl rfl rfl rfl (fun hc => Sil.not (congrArg some (sel_eq hc _))) ?_  -- 17.3: t155 := unOp
              refine ER.silG rfl rfl rfl rfl rfl rfl (fun hc => Sil.move (congrArg some (sel_eq hc _))) ?_  -- 17.4: t156 := move
              refine ER.silGG rfl rfl rfl rfl rfl rfl (fun hp hc => Sil.move rfl) ?_  -- 17.5: t157 := move
              refine ER.silGG rfl rfl rfl rfl rfl rfl (fun hp hc => Sil.move rfl) ?_  -- 17.6: t158 := move
              refine ER.silGG rfl rfl rfl rfl rfl rfl (fun hp hc => Sil.move rfl) ?_  -- 17.7: t159 := move
              refine ER.silGG rfl rfl rfl rfl rfl rfl (fun hp hc => Sil.add (congrArg some (sel_2 hp hc _)) (congrArg some (sel_2 hp hc _))) ?_  -- 17.8: t160 := binOp
              refine ER.silGG rfl rfl rfl rfl rfl rfl (fun hp hc => Sil.geq (congrArg some (sel_2 hp hc _)) (congrArg some (sel_2 hp hc _))) ?_  -- 17.9: t161 := binOp
              refine ER.silG rfl rfl rfl rfl rfl rfl (fun hc => Sil.pickOr (congrArg some (sel_eq hc _)) rfl (congrArg some (sel_in hc _ _))) ?_  -- 17.10: t162 := pick
              refine ER.sil rfl rfl rfl rfl (Sil.pickAnd rfl rfl rfl) ?_  -- 17.11: t163 := pick
              refine ER.sil rfl rfl rfl rfl (Sil.assign rfl) ?_  -- 17.12: t12 := assign
              refine ER.nil (fun w20 h20 => ?_)
              refine AQ.then ?_
              refine EC.ret ?_
              refine AQ.ret1 Try.results7 rfl ?_
              exact ⟨ret_b (show fitsEnd l (fitB l size align from_ until_) size align from_ until_ = lawFits l size align from_ until_ n by simp only [lawFits, fitsGo, hb0, hb1, hb2, hb3, hb4, hb5, Bool.and_false, cond_false]), ((((((((((((((h1.trans h2).trans h3).trans h5).trans h6).trans h8).trans h10).trans h11).trans h12).trans h13).trans h15).trans h17).trans h18).trans h19).trans h20)⟩
        ·
          have hb3 : fitsC3 align n = false := hb3
          refine EC.skip ?_
          refine AQ.then ?_
          refine EC.seq ?_
          refine EC.seq ?_
          -- region 14  law.go:108
          refine EC.region (fun i => [1, 1].getD i 0) [0, 1] rfl ?_
          refine ER.sil rfl rfl rfl rfl (Sil.move rfl) ?_  -- 14.0: t136 := move
          refine ER.sil rfl rfl rfl rfl (Sil.not rfl) ?_  -- 14.1: t137 := unOp
          refine ER.nil (fun w21 h21 => ?_)
          refine AQ.then ?_
          refine EC.cond rfl (fun hb6 => ?_) (fun hb6 => ?_)  -- cond 6: t137
          ·
            have hb6 : (!(fitB l size align from_ until_).2) = true := hb6
            refine EC.seq ?_
            -- region 15  law.go:109
            refine EC.region (fun i => [1, 1].getD i 0) [0, 1] rfl ?_
            refine ER.sil rfl rfl rfl rfl (Sil.move rfl) ?_  -- 15.0: t138 := move
            refine ER.sil rfl rfl rfl rfl (Sil.assign rfl) ?_  -- 15.1: t12 := assign
            refine ER.nil (fun w22 h22 => ?_)
            refine AQ.then ?_
            refine EC.ret ?_
            refine AQ.thenRet ?_
            refine AQ.ret1 Try.results7 rfl ?_
            exact ⟨ret_b (show true = lawFits l size align from_ until_ n by simp only [lawFits, fitsGo, hb0, hb1, hb2, hb3, hb6, Bool.false_and, cond_false, cond_true]), ((((((((h1.trans h2).trans h3).trans h5).trans h6).trans h8).trans h10).trans h21).trans h22)⟩
          ·
            have hb6 : (!(fitB l size align from_ until_).2) = false := hb6
            refine EC.skip ?_
            refine AQ.then ?_
            refine EC.seq ?_
            -- region 16  law.go:111
            refine EC.region (fun i => [1, 1, 1, 1, 2, 1, 1, 1, 1, 0, 1, 1, 1, 1, 1].getD i 0) [0, 1, 2, 3, 4, 5, 6, 7, 8, 9, 10, 11, 12, 13, 14] rfl ?_
            refine ER.sil rfl rfl rfl rfl (Sil.move rfl) ?_  -- 16.0: t140 := move
            refine ER.sil rfl rfl rfl rfl (Sil.move rfl) ?_  -- 16.1: t141 := move
            refine ER.sil rfl rfl rfl rfl (Sil.move rfl) ?_  -- 16.2: t142 := move
            refine ER.sil rfl rfl rfl rfl (Sil.build rfl rfl) ?_  -- 16.3: t143 := build
            refine ER.st rfl rfl rfl rfl (fun w23 h23 => Stp.call fok14 rfl rfl (Calls.mono ((cut_any l v ((fitB l size align from_ until_).1, size) w23 (hl.ext ((((((((h1.trans h2).trans h3).trans h5).trans h6).trans h8).trans h10).trans h21).trans h23)) (fitsBad_len hb0))) ?_))  -- 16.4: t144 := call
            rintro _ w24 ⟨v24, rfl, h24, pa24⟩
            refine ⟨v24, rfl, h24, ?_⟩
            refine ER.sil rfl rfl rfl rfl (Sil.move rfl) ?_  -- 16.5: t145 := move
            refine ER.sil rfl rfl rfl rfl (Sil.move rfl) ?_  -- 16.6: t146 := move
            refine ER.sil rfl rfl rfl rfl (Sil.move rfl) ?_  -- 16.7: t147 := move
            refine ER.sil rfl rfl rfl rfl (Sil.move rfl) ?_  -- 16.8: t148 := move
            refine ER.ex rfl rfl rfl rfl (Exa.call fok9 rfl rfl (fun wx hx => (fit_any _ _ wx ((Spans.of_own pa24).ext hx) size align from_ until_))) ?_  -- 16.9: t149 := call
            refine ER.sil rfl rfl rfl rfl (Sil.move rfl) ?_  -- 16.10: t139 := move
            refine ER.sil rfl rfl rfl rfl (Sil.extract rfl rfl) ?_  -- 16.11: t150 := extract
            refine ER.sil rfl rfl rfl rfl (Sil.extract rfl rfl) ?_  -- 16.12: t151 := extract
            refine ER.sil rfl rfl rfl rfl (Sil.assign rfl) ?_  -- 16.13: t18 := assign
            refine ER.sil rfl rfl rfl rfl (Sil.assign rfl) ?_  -- 16.14: t19 := assign
            refine ER.nil (fun w25 h25 => ?_)
            refine AQ.then ?_
            refine EC.seq ?_
            -- region 17  law.go:112
            refine EC.region (fun i => [1, 1, 1, 1, 1, 1, 1, 1, 1, 1, 1, 1, 1].getD i 0) [0, 1, 2, 3, 4, 5, 6, 7, 8, 9, 10, 11, 12] rfl ?_
            refine ER.sil rfl rfl rfl rfl (Sil.move rfl) ?_  -- 17.0: t152 := move
            refine ER.sil rfl rfl rfl rfl (Sil.move rfl) ?_  -- 17.1: t153 := move
            refine ER.silG rfl rfl rfl rfl rfl rfl (fun hc => Sil.move rfl) ?_  -- 17.2: t154 := move
            refine ER.silG rfl rfl rfl rfl rfl rfl (fun hc => Sil.not (congrArg some (sel_eq hc _))) ?_  -- 17.3: t155 := unOp
            refine ER.silG rfl rfl rfl rfl rfl rfl (fun hc => Sil.move (congrArg some (sel_eq hc _))) ?_  -- 17.4: t156 := move
            refine ER.silGG rfl rfl rfl rfl rfl rfl (fun hp hc => Sil.move rfl) ?_  -- 17.5: t157 := move
            refine ER.silGG rfl rfl rfl rfl rfl rfl (fun hp hc => Sil.move rfl) ?_  -- 17.6: t158 := move
            refine ER.silGG rfl rfl rfl rfl rfl rfl (fun hp hc => Sil.move rfl) ?_  -- 17.7: t159 := move
            refine ER.silGG rfl rfl rfl rfl rfl rfl (fun hp hc => Sil.add (congrArg some (sel_2 hp hc _)) (congrArg some (sel_2 hp hc _))) ?_  -- 17.8: t160 := binOp
            refine ER.silGG rfl rfl rfl rfl rfl rfl (fun hp hc => Sil.geq (congrArg some (sel_2 hp hc _)) (congrArg some (sel_2 hp hc _))) ?_  -- 17.9: t161 := binOp
            refine ER.silG rfl rfl rfl rfl rfl rfl (fun hc => Sil.pickOr (congrArg some (sel_eq hc _)) rfl (congrArg some (sel_in hc _ _))) ?_  -- 17.10: t162 := pick
            refine ER.sil rfl rfl rfl rfl (Sil.pickAnd rfl rfl rfl) ?_  -- 17.11: t163 := pick
            refine ER.sil rfl rfl rfl rfl (Sil.assign rfl) ?_  -- 17.12: t12 := assign
            refine ER.nil (fun w26 h26 => ?_)
            refine AQ.then ?_
            refine EC.ret ?_
            refine AQ.ret1 Try.results7 rfl ?_
            exact ⟨ret_b (show fitsEnd l (fitB l size align from_ until_) size align from_ until_ = lawFits l size align from_ until_ n by simp only [lawFits, fitsGo, hb0, hb1, hb2, hb3, hb6, Bool.false_and, cond_false]), (((((((((((h1.trans h2).trans h3).trans h5).trans h6).trans h8).trans h10).trans h21).trans h23).trans h24).trans h25).trans h26)⟩

end Go.Proofs.Ytnnmeipmkfbpdaa
