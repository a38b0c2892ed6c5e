/- Bind: the law First, walked. -/
import Derived.Test.YtgagjmapjdeknaaW22
namespace Go.Proofs.Ytgagjmapjdeknaa
open Go.RowKit Go.XK Go.BindLaw

-- linchpin/linchpinlaw31.BindFirst: parameters ['[]api.Module', 'int', 'string', 'string'] (free 0), results [('ResultVar.tmp', 8)], 175 slots
set_option maxRecDepth 100000 in
theorem first_any (ms : List Mo) (v : Value) (m : Int) (name want : ByteArray) (w : World) (hms : Mods w v ms) :
    Calls Try.prog 5 [v, .int .i64 m, .string name, .string want].toArray w fun e w' => e = .returned (.bool true) ∧ Ext w w' := by
  have hm := hms.max
  have hHl := hitN_le ms (scopeL ms m) name want
  refine calls_of Try.func5 rfl Try.ntmps5 rfl ?_
  refine EC.seq ?_
  -- region 0  law.go:129
  refine EC.region (fun i => [1].getD i 0) [0] rfl ?_
  refine ER.sil rfl rfl rfl rfl (Sil.assign rfl) ?_  -- 0.0: t8 := assign
  refine ER.nil (fun w1 h1 => ?_)
  refine AQ.then ?_
  refine EC.seq ?_
  -- region 1  law.go:130
  refine EC.region (fun i => [0, 1].getD i 0) [0, 1] rfl ?_
  refine ER.ex rfl rfl rfl rfl (Exa.call fok8 rfl rfl (fun wx hx => (small_any wx))) ?_  -- 1.0: t16 := call
  refine ER.sil rfl rfl rfl rfl (Sil.assign rfl) ?_  -- 1.1: t9 := assign
  refine ER.nil (fun w2 h2 => ?_)
  refine AQ.then ?_
  refine EC.seq ?_
  refine EC.seq ?_
  -- region 2  law.go:131
  refine EC.region (fun i => [1, 0, 1].getD i 0) [0, 1, 2] rfl ?_
  refine ER.sil rfl rfl rfl rfl (Sil.move rfl) ?_  -- 2.0: t17 := move
  refine ER.ex rfl rfl rfl rfl (Exa.call fok9 rfl rfl (fun wx hx => (few_any ms v wx (hms.ext ((h1.trans h2).trans hx))))) ?_  -- 2.1: t18 := call
  refine ER.sil rfl rfl rfl rfl (Sil.not rfl) ?_  -- 2.2: t19 := unOp
  refine ER.nil (fun w3 h3 => ?_)
  refine AQ.then ?_
  refine EC.cond rfl (fun hb0 => ?_) (fun hb0 => ?_)  -- cond 0: t19
  ·
    refine EC.seq ?_
    -- region 3  law.go:132
    refine EC.region (fun i => [1, 1].getD i 0) [0, 1] rfl ?_
    refine ER.sil rfl rfl rfl rfl (Sil.move rfl) ?_  -- 3.0: t20 := move
    refine ER.sil rfl rfl rfl rfl (Sil.assign rfl) ?_  -- 3.1: t8 := assign
    refine ER.nil (fun w4 h4 => ?_)
    refine AQ.then ?_
    refine EC.ret ?_
    refine AQ.thenRet ?_
    refine AQ.ret1 Try.results5 rfl ?_
    exact ⟨rfl, (((h1.trans h2).trans h3).trans h4)⟩
  ·
    have hfew : fewB ms = true := by simpa using hb0
    refine EC.skip ?_
    refine AQ.then ?_
    refine EC.seq ?_
    -- region 4  law.go:134
    refine EC.region (fun i => [1, 1, 2, 1].getD i 0) [0, 1, 2, 3] rfl ?_
    refine ER.sil rfl rfl rfl rfl (Sil.move rfl) ?_  -- 4.0: t21 := move
    refine ER.sil rfl rfl rfl rfl (Sil.move rfl) ?_  -- 4.1: t22 := move
    refine ER.st rfl rfl rfl rfl (fun w5 h5 => Stp.call fok13 rfl rfl (Calls.mono ((Scope_any ms v m w5 (hms.ext (((h1.trans h2).trans h3).trans h5)) (few_len hfew))) ?_))  -- 4.2: t23 := call
    rintro _ w6 ⟨v6, rfl, h6, hl6⟩
    refine ⟨v6, rfl, h6, ?_⟩
    have hlm := hl6.max
    refine ER.sil rfl rfl rfl rfl (Sil.assign rfl) ?_  -- 4.3: t10 := assign
    refine ER.nil (fun w7 h7 => ?_)
    refine AQ.then ?_
    refine EC.seq ?_
    -- region 5  law.go:135
    refine EC.region (fun i => [1, 1, 1, 1, 0, 1, 1, 1, 1, 1, 1, 1].getD i 0) [0, 1, 2, 3, 4, 5, 6, 7, 8, 9, 10, 11] rfl ?_
    refine ER.sil rfl rfl rfl rfl (Sil.move rfl) ?_  -- 5.0: t25 := move
    refine ER.sil rfl rfl rfl rfl (Sil.move rfl) ?_  -- 5.1: t26 := move
    refine ER.sil rfl rfl rfl rfl (Sil.move rfl) ?_  -- 5.2: t27 := move
    refine ER.sil rfl rfl rfl rfl (Sil.move rfl) ?_  -- 5.3: t28 := move
    refine ER.ex rfl rfl rfl rfl (Exa.call fok10 rfl rfl (fun wx hx => (Find_any ms v m name want wx (hms.ext ((((((h1.trans h2).trans h3).trans h5).trans h6).trans h7).trans hx)) (few_len hfew)))) ?_  -- 5.4: t29 := call
    refine ER.sil rfl rfl rfl rfl (Sil.move rfl) ?_  -- 5.5: t24 := move
    refine ER.sil rfl rfl rfl rfl (Sil.extract rfl rfl) ?_  -- 5.6: t30 := extract
    refine ER.sil rfl rfl rfl rfl (Sil.extract rfl rfl) ?_  -- 5.7: t31 := extract
    refine ER.sil rfl rfl rfl rfl (Sil.extract rfl rfl) ?_  -- 5.8: t32 := extract
    refine ER.sil rfl rfl rfl rfl (Sil.assign rfl) ?_  -- 5.9: t11 := assign
    refine ER.sil rfl rfl rfl rfl (Sil.assign rfl) ?_  -- 5.10: t12 := assign
    refine ER.sil rfl rfl rfl rfl (Sil.assign rfl) ?_  -- 5.11: t13 := assign
    refine ER.nil (fun w8 h8 => ?_)
    refine AQ.then ?_
    refine EC.seq ?_
    -- region 6  law.go:136
    refine EC.region (fun i => [1, 1, 1, 1, 2, 1].getD i 0) [0, 1, 2, 3, 4, 5] rfl ?_
    refine ER.sil rfl rfl rfl rfl (Sil.move rfl) ?_  -- 6.0: t33 := move
    refine ER.sil rfl rfl rfl rfl (Sil.move rfl) ?_  -- 6.1: t34 := move
    refine ER.sil rfl rfl rfl rfl (Sil.move rfl) ?_  -- 6.2: t35 := move
    refine ER.sil rfl rfl rfl rfl (Sil.move rfl) ?_  -- 6.3: t36 := move
    refine ER.st rfl rfl rfl rfl (fun w9 h9 => Stp.call fok17 rfl rfl (Calls.mono ((Why_any ms v m name want w9 (hms.ext (((((((h1.trans h2).trans h3).trans h5).trans h6).trans h7).trans h8).trans h9)) (few_len hfew))) ?_))  -- 6.4: t37 := call
    rintro _ w10 ⟨v10, rfl, h10, hr10⟩
    refine ⟨v10, rfl, h10, ?_⟩
    refine ER.sil rfl rfl rfl rfl (Sil.assign rfl) ?_  -- 6.5: t14 := assign
    refine ER.nil (fun w11 h11 => ?_)
    refine AQ.then ?_
    refine EC.seq ?_
    -- region 7  law.go:137
    refine EC.region (fun i => [1].getD i 0) [0] rfl ?_
    refine ER.sil rfl rfl rfl rfl (Sil.assign rfl) ?_  -- 7.0: t15 := assign
    refine ER.nil (fun w12 h12 => ?_)
    refine AQ.then ?_
    refine EC.seq ?_
    refine EC.block ?_
    refine EC.loop (σ := Nat) (fun n => [(0, v), (2, .string name), (3, .string want), (9, .bool true), (10, v6), (11, .int .i64 (fMod ms (scopeL ms m) name want)), (12, .int .i64 (fExp ms (scopeL ms m) name want)), (13, .bool (fOk ms (scopeL ms m) name want)), (14, v10), (15, .int .i64 (n : Int))]) (fun n wr => Ext w wr ∧ Ints wr v6 (scopeL ms m) ∧ Refs wr v10 (whyL ms (scopeL ms m) name want) ∧ n ≤ (hitN ms (scopeL ms m) name want)) (fun n => (hitN ms (scopeL ms m) name want) - n) 0 [0, 2, 3, 9, 10, 11, 12, 13, 14, 15] rfl ?_ (fun n wr hF => ?_)
    · exact ⟨((((((((((h1.trans h2).trans h3).trans h5).trans h6).trans h7).trans h8).trans h9).trans h10).trans h11).trans h12), (hl6.ext (((((h7.trans h8).trans h9).trans h10).trans h11).trans h12)), (hr10.ext (h11.trans h12)), Nat.zero_le _⟩
    obtain ⟨hE, hl, hr, hn⟩ := hF
    have hwl := whyL_len ms (scopeL ms m) name want
    refine EC.seq ?_
    refine EC.seq ?_
    -- region 8  law.go:138
    refine EC.region (fun i => [1, 1, 1, 1, 1, 1, 1, 1, 1, 1, 0, 1, 1, 1, 1, 1].getD i 0) [0, 1, 2, 3, 4, 5, 6, 7, 8, 9, 10, 11, 12, 13, 14, 15] rfl ?_
    refine ER.sil rfl rfl rfl rfl (Sil.move rfl) ?_  -- 8.0: t38 := move
    refine ER.sil rfl rfl rfl rfl (Sil.move rfl) ?_  -- 8.1: t39 := move
    refine ER.sil rfl rfl rfl rfl (Sil.lenR Try.underlying28 rfl (Ints.isS hl)) ?_  -- 8.2: t40 := call
    refine ER.sil rfl rfl rfl rfl (Sil.lss rfl rfl) ?_  -- 8.3: t41 := binOp
    refine ER.sil rfl rfl rfl rfl (Sil.move rfl) ?_  -- 8.4: t42 := move
    refine ER.silG rfl rfl rfl rfl rfl rfl (fun hc => Sil.move rfl) ?_  -- 8.5: t43 := move
    refine ER.silG rfl rfl rfl rfl rfl rfl (fun hc => Sil.move (congrArg some (sel_eq hc _))) ?_  -- 8.6: t44 := move
    refine ER.silGG rfl rfl rfl rfl rfl rfl (fun hp hc => Sil.move rfl) ?_  -- 8.7: t45 := move
    refine ER.silGG rfl rfl rfl rfl rfl rfl (fun hp hc => Sil.move rfl) ?_  -- 8.8: t46 := move
    refine ER.silGG rfl rfl rfl rfl rfl rfl (fun hp hc => Sil.indexR Try.underlying28 inf3 (congrArg some (sel_2 hp hc _)) (congrArg some (sel_2 hp hc _)) (Ints.isE hl (by simp at hp; omega)) (by omega) (by simp at hp; omega)) ?_  -- 8.9: t47 := indexAddr
    refine ER.exGG rfl rfl rfl rfl rfl rfl (fun hp hc => Exa.load flat3 (congrArg some (sel_2 hp hc _)) (Ints.cellD (hl.ext (Ext.refl _)) (by simp at hp; omega))) ?_  -- 8.10: t48 := load
    rw [Int.toNat_natCast]
    refine ER.silGG rfl rfl rfl rfl rfl rfl (fun hp hc => Sil.move rfl) ?_  -- 8.11: t49 := move
    refine ER.silGG rfl rfl rfl rfl rfl rfl (fun hp hc => Sil.eql (congrArg some (sel_2 hp hc _)) (congrArg some (sel_2 hp hc _))) ?_  -- 8.12: t50 := binOp
    refine ER.silG rfl rfl rfl rfl rfl rfl (fun hc => Sil.pickAnd (congrArg some (sel_eq hc _)) (congrArg some (sel_in hc _ _)) rfl) ?_  -- 8.13: t51 := pick
    refine ER.silG rfl rfl rfl rfl rfl rfl (fun hc => Sil.not (congrArg some (sel_eq hc _))) ?_  -- 8.14: t52 := unOp
    refine ER.sil rfl rfl rfl rfl (Sil.pickAnd rfl rfl rfl) ?_  -- 8.15: t53 := pick
    refine ER.nil (fun w13 h13 => ?_)
    refine AQ.then ?_
    refine EC.cond rfl (fun hb1 => ?_) (fun hb1 => ?_)  -- cond 1: t53
    ·
      rw [first_cond (scopeL_nodup ms m) hn] at hb1
      have hnH := of_decide_eq_true hb1
      have hnl : n < (scopeL ms m).length := by omega
      have hnw : n < (whyL ms (scopeL ms m) name want).length := by omega
      have hin : InR ms (scopeL ms m)[n] := scopeL_in _ (List.getElem_mem hnl)
      obtain ⟨ics, hicl, hiat, himc, hione⟩ := hms.image hin
      refine EC.skip ?_
      refine AQ.then ?_
      refine EC.block ?_
      refine EC.seq ?_
      refine EC.seq ?_
      -- region 9  law.go:139
      refine EC.draw (fun i => [1, 1, 1, 0, 1, 1, 1, 1, 1, 0, 1, 1, 1, 1, 1, 1, 1, 1, 1, 0, 1, 1, 0, 1, 1, 0, 1, 1, 1, 1, 1, 1, 1, 1, 1, 1, 1, 1, 1, 0, 1, 1, 1, 0, 1, 1].getD i 0) [0, 1, 2, 3, 4, 5, 6, 7, 8, 9, 10, 11, 12, 13, 14, 15, 16, 17, 18, 19, 20, 21, 22, 23, 24, 25, 26, 27, 28, 29, 30, 31, 32, 33, 34, 35, 36, 37, 38, 39, 40, 41, 42, 43, 44, 45] (by kernel_rfl) (by kernel_rfl) ?_
      refine ER.sil rfl rfl rfl rfl (Sil.move rfl) ?_  -- 9.0: t54 := move
      refine ER.sil rfl rfl rfl rfl (Sil.move rfl) ?_  -- 9.1: t55 := move
      refine ER.sil rfl rfl rfl rfl (Sil.indexR Try.underlying28 inf3 rfl rfl (Ints.isE hl (by omega)) (by omega) (by omega)) ?_  -- 9.2: t56 := indexAddr
      refine ER.ex rfl rfl rfl rfl (Exa.load flat3 rfl (Ints.cell (hl.ext h13) hnl)) ?_  -- 9.3: t57 := load
      refine ER.sil rfl rfl rfl rfl (Sil.lss rfl rfl) ?_  -- 9.4: t58 := binOp
      refine ER.sil rfl rfl rfl rfl (Sil.move rfl) ?_  -- 9.5: t59 := move
      refine ER.silG rfl rfl rfl rfl rfl rfl (fun hc => Sil.move rfl) ?_  -- 9.6: t60 := move
      refine ER.silG rfl rfl rfl rfl rfl rfl (fun hc => Sil.move rfl) ?_  -- 9.7: t61 := move
      refine ER.silG rfl rfl rfl rfl rfl rfl (fun hc => Sil.indexR Try.underlying28 inf3 (congrArg some (sel_eq hc _)) (congrArg some (sel_eq hc _)) (Ints.isE hl (by omega)) (by omega) (by omega)) ?_  -- 9.8: t62 := indexAddr
      refine ER.exG rfl rfl rfl rfl rfl rfl (fun hc => Exa.load flat3 (congrArg some (sel_eq hc _)) (Ints.cell (hl.ext h13) hnl)) ?_  -- 9.9: t63 := load
      refine ER.silG rfl rfl rfl rfl rfl rfl (fun hc => Sil.move rfl) ?_  -- 9.10: t64 := move
      refine ER.silG rfl rfl rfl rfl rfl rfl (fun hc => Sil.lenR Try.underlying22 (congrArg some (sel_eq hc _)) (Mods.isS hms)) ?_  -- 9.11: t65 := call
      refine ER.silG rfl rfl rfl rfl rfl rfl (fun hc => Sil.geq (congrArg some (sel_eq hc _)) (congrArg some (sel_eq hc _))) ?_  -- 9.12: t66 := binOp
      refine ER.sil rfl rfl rfl rfl (Sil.pickOr rfl rfl rfl) ?_  -- 9.13: t67 := pick
      refine ER.sil rfl rfl rfl rfl (Sil.move rfl) ?_  -- 9.14: t68 := move
      refine ER.silG rfl rfl rfl rfl rfl rfl (fun hc => Sil.move rfl) ?_  -- 9.15: t69 := move
      refine ER.silG rfl rfl rfl rfl rfl rfl (fun hc => Sil.move rfl) ?_  -- 9.16: t70 := move
      refine ER.silG rfl rfl rfl rfl rfl rfl (fun hc => Sil.move rfl) ?_  -- 9.17: t71 := move
      refine ER.silG rfl rfl rfl rfl rfl rfl (fun hc => Sil.indexR Try.underlying28 inf3 (congrArg some (sel_eq hc _)) (congrArg some (sel_eq hc _)) (Ints.isE hl (by omega)) (by omega) (by omega)) ?_  -- 9.18: t72 := indexAddr
      refine ER.exG rfl rfl rfl rfl rfl rfl (fun hc => Exa.load flat3 (congrArg some (sel_eq hc _)) (Ints.cell (hl.ext h13) hnl)) ?_  -- 9.19: t73 := load
      refine ER.silG rfl rfl rfl rfl rfl rfl (fun hc => Sil.indexR Try.underlying22 inf56 (congrArg some (sel_eq hc _)) (congrArg some (sel_eq hc _)) (Mods.isE hms (by have := hin.1; have := hin.2; omega)) (hin.1) (hin.2)) ?_  -- 9.20: t74 := indexAddr
      refine ER.silG rfl rfl rfl rfl rfl rfl (fun hc => Sil.fieldAddr Try.underlying56 rfl inf54 (congrArg some (sel_eq hc _))) ?_  -- 9.21: t75 := fieldAddr
      refine ER.exG rfl rfl rfl rfl rfl rfl (fun hc => Exa.loadAgg (vs := ics) (by rw [hicl]; exact agg54) (congrArg some (sel_eq hc _)) (hiat.ext (hE.trans h13))) ?_  -- 9.22: t76 := load
      refine ER.silG rfl rfl rfl rfl rfl rfl (fun hc => Sil.move rfl) ?_  -- 9.23: t77 := move
      refine ER.silG rfl rfl rfl rfl rfl rfl (fun hc => Sil.move rfl) ?_  -- 9.24: t78 := move
      refine ER.exG rfl rfl rfl rfl rfl rfl (fun hc => Exa.call fok20 rfl (evs_cons (congrArg some (sel_eq hc _)) (evs_cons (congrArg some (sel_eq hc _)) (evs_cons (congrArg some (sel_eq hc _)) evs_nil))) (fun wx hx => (offered_any ics (moAt ms (scopeL ms m)[n]) name want wx (himc.ext ((hE.trans h13).trans hx))))) ?_  -- 9.25: t79 := call
      refine ER.silG rfl rfl rfl rfl rfl rfl (fun hc => Sil.geq (congrArg some (sel_eq hc _)) rfl) ?_  -- 9.26: t80 := binOp
      refine ER.sil rfl rfl rfl rfl (Sil.pickOr rfl rfl rfl) ?_  -- 9.27: t81 := pick
      refine ER.sil rfl rfl rfl rfl (Sil.move rfl) ?_  -- 9.28: t82 := move
      refine ER.silG rfl rfl rfl rfl rfl rfl (fun hc => Sil.move rfl) ?_  -- 9.29: t83 := move
      refine ER.silG rfl rfl rfl rfl rfl rfl (fun hc => Sil.move rfl) ?_  -- 9.30: t84 := move
      refine ER.silG rfl rfl rfl rfl rfl rfl (fun hc => Sil.lenR Try.underlying31 (congrArg some (sel_eq hc _)) (Refs.isS hr)) ?_  -- 9.31: t85 := call
      refine ER.silG rfl rfl rfl rfl rfl rfl (fun hc => Sil.geq (congrArg some (sel_eq hc _)) (congrArg some (sel_eq hc _))) ?_  -- 9.32: t86 := binOp
      refine ER.sil rfl rfl rfl rfl (Sil.pickOr rfl rfl rfl) ?_  -- 9.33: t87 := pick
      refine ER.sil rfl rfl rfl rfl (Sil.move rfl) ?_  -- 9.34: t88 := move
      refine ER.silG rfl rfl rfl rfl rfl rfl (fun hc => Sil.move rfl) ?_  -- 9.35: t89 := move
      refine ER.silG rfl rfl rfl rfl rfl rfl (fun hc => Sil.move rfl) ?_  -- 9.36: t90 := move
      refine ER.silG rfl rfl rfl rfl rfl rfl (fun hc => Sil.indexR Try.underlying31 inf36 (congrArg some (sel_eq hc _)) (congrArg some (sel_eq hc _)) (Refs.isE hr (by omega)) (by omega) (by omega)) ?_  -- 9.37: t91 := indexAddr
      refine ER.silG rfl rfl rfl rfl rfl rfl (fun hc => Sil.fieldAddr Try.underlying36 rfl inf3 (congrArg some (sel_eq hc _))) ?_  -- 9.38: t92 := fieldAddr
      refine ER.exG rfl rfl rfl rfl rfl rfl (fun hc => Exa.load flat3 (congrArg some (sel_eq hc _)) ((hr.ext h13).mod hnw)) ?_  -- 9.39: t93 := load
      refine ER.silG rfl rfl rfl rfl rfl rfl (fun hc => Sil.move rfl) ?_  -- 9.40: t94 := move
      refine ER.silG rfl rfl rfl rfl rfl rfl (fun hc => Sil.move rfl) ?_  -- 9.41: t95 := move
      refine ER.silG rfl rfl rfl rfl rfl rfl (fun hc => Sil.indexR Try.underlying28 inf3 (congrArg some (sel_eq hc _)) (congrArg some (sel_eq hc _)) (Ints.isE hl (by omega)) (by omega) (by omega)) ?_  -- 9.42: t96 := indexAddr
      refine ER.exG rfl rfl rfl rfl rfl rfl (fun hc => Exa.load flat3 (congrArg some (sel_eq hc _)) (Ints.cell (hl.ext h13) hnl)) ?_  -- 9.43: t97 := load
      refine ER.silG rfl rfl rfl rfl rfl rfl (fun hc => Sil.neq (congrArg some (sel_eq hc _)) (congrArg some (sel_eq hc _))) ?_  -- 9.44: t98 := binOp
      refine ER.sil rfl rfl rfl rfl (Sil.pickOr rfl rfl rfl) ?_  -- 9.45: t99 := pick
      refine ER.nil (fun w14 h14 => ?_)
      refine AQ.then ?_
      refine EC.cond rfl (fun hb2 => ?_) (fun hb2 => ?_)  -- cond 2: t99
      ·
        rw [decide_eq_false (by have := hin.1; omega), decide_eq_false (by have := hin.2; omega), ← isHit_off, hit_before hnl hnH, decide_eq_false (by omega), whyL_mod hnw hnl, bne_self_eq_false] at hb2
        cases hb2
      ·
        refine EC.skip ?_
        refine AQ.then ?_
        -- region 11  law.go:142
        refine EC.region (fun i => [1, 1, 1].getD i 0) [0, 1, 2] rfl ?_
        refine ER.sil rfl rfl rfl rfl (Sil.move rfl) ?_  -- 11.0: t100 := move
        refine ER.sil rfl rfl rfl rfl (Sil.add rfl rfl) ?_  -- 11.1: t101 := binOp
        refine ER.sil rfl rfl rfl rfl (Sil.assign rfl) ?_  -- 11.2: t15 := assign
        refine ER.nil (fun w15 h15 => ?_)
        refine AQ.blockNormal ?_
        exact AQ.round (n + 1) [0, 2, 3, 9, 10, 11, 12, 13, 14, 15] (by rw [← wrap_succ hnl hlm]; rfl) ⟨(((hE.trans h13).trans h14).trans h15), hl.ext ((h13.trans h14).trans h15), hr.ext ((h13.trans h14).trans h15), hnH⟩ (by omega)
    ·
      rw [first_cond (scopeL_nodup ms m) hn] at hb1
      have hnH : n = (hitN ms (scopeL ms m) name want) := by have := of_decide_eq_false hb1; omega
      refine EC.exit ?_
      refine AQ.thenExit ?_
      refine AQ.thenExit ?_
      refine AQ.blockHit ?_
      refine AQ.then ?_
      refine EC.seq ?_
      refine EC.seq ?_
      -- region 12  law.go:144
      refine EC.region (fun i => [1, 1, 1, 1, 1, 1, 1, 1, 1, 1, 1, 1].getD i 0) [0, 1, 2, 3, 4, 5, 6, 7, 8, 9, 10, 11] rfl ?_
      refine ER.sil rfl rfl rfl rfl (Sil.move rfl) ?_  -- 12.0: t102 := move
      refine ER.sil rfl rfl rfl rfl (Sil.lenR Try.underlying31 rfl (Refs.isS hr)) ?_  -- 12.1: t103 := call
      refine ER.sil rfl rfl rfl rfl (Sil.move rfl) ?_  -- 12.2: t104 := move
      refine ER.sil rfl rfl rfl rfl (Sil.neq rfl rfl) ?_  -- 12.3: t105 := binOp
      refine ER.sil rfl rfl rfl rfl (Sil.move rfl) ?_  -- 12.4: t106 := move
      refine ER.silG rfl rfl rfl rfl rfl rfl (fun hc => Sil.move rfl) ?_  -- 12.5: t107 := move
      refine ER.silG rfl rfl rfl rfl rfl rfl (fun hc => Sil.move rfl) ?_  -- 12.6: t108 := move
      refine ER.silG rfl rfl rfl rfl rfl rfl (fun hc => Sil.move rfl) ?_  -- 12.7: t109 := move
      refine ER.silG rfl rfl rfl rfl rfl rfl (fun hc => Sil.lenR Try.underlying28 (congrArg some (sel_eq hc _)) (Ints.isS hl)) ?_  -- 12.8: t110 := call
      refine ER.silG rfl rfl rfl rfl rfl rfl (fun hc => Sil.lss (congrArg some (sel_eq hc _)) (congrArg some (sel_eq hc _))) ?_  -- 12.9: t111 := binOp
      refine ER.silG rfl rfl rfl rfl rfl rfl (fun hc => Sil.bneq Try.underlying4 (congrArg some (sel_eq hc _)) (congrArg some (sel_eq hc _))) ?_  -- 12.10: t112 := binOp
      refine ER.sil rfl rfl rfl rfl (Sil.pickOr rfl rfl rfl) ?_  -- 12.11: t113 := pick
      refine ER.nil (fun w16 h16 => ?_)
      refine AQ.then ?_
      refine EC.cond rfl (fun hb3 => ?_) (fun hb3 => ?_)  -- cond 3: t113
      ·
        rw [hwl, hnH, bne_self_eq_false, show (decide (((hitN ms (scopeL ms m) name want) : Int) < ((scopeL ms m).length : Int))) = (fOk ms (scopeL ms m) name want) from by rw [fOk]; simp, bne_self_eq_false] at hb3
        cases hb3
      ·
        refine EC.skip ?_
        refine AQ.then ?_
        refine EC.seq ?_
        refine EC.seq ?_
        -- region 14  law.go:147
        refine EC.region (fun i => [1, 1].getD i 0) [0, 1] rfl ?_
        refine ER.sil rfl rfl rfl rfl (Sil.move rfl) ?_  -- 14.0: t114 := move
        refine ER.sil rfl rfl rfl rfl (Sil.not rfl) ?_  -- 14.1: t115 := unOp
        refine ER.nil (fun w17 h17 => ?_)
        refine AQ.then ?_
        refine EC.cond rfl (fun hb4 => ?_) (fun hb4 => ?_)  -- cond 4: t115
        ·
          have hok : (fOk ms (scopeL ms m) name want) = false := by simpa using hb4
          refine EC.seq ?_
          -- region 15  law.go:148
          refine EC.region (fun i => [1, 1, 1, 1, 1, 1, 1, 1, 1, 1].getD i 0) [0, 1, 2, 3, 4, 5, 6, 7, 8, 9] rfl ?_
          refine ER.sil rfl rfl rfl rfl (Sil.move rfl) ?_  -- 15.0: t116 := move
          refine ER.sil rfl rfl rfl rfl (Sil.move rfl) ?_  -- 15.1: t117 := move
          refine ER.silG rfl rfl rfl rfl rfl rfl (fun hc => Sil.move rfl) ?_  -- 15.2: t118 := move
          refine ER.silG rfl rfl rfl rfl rfl rfl (fun hc => Sil.eql (congrArg some (sel_eq hc _)) rfl) ?_  -- 15.3: t119 := binOp
          refine ER.sil rfl rfl rfl rfl (Sil.pickAnd rfl rfl rfl) ?_  -- 15.4: t120 := pick
          refine ER.sil rfl rfl rfl rfl (Sil.move rfl) ?_  -- 15.5: t121 := move
          refine ER.silG rfl rfl rfl rfl rfl rfl (fun hc => Sil.move rfl) ?_  -- 15.6: t122 := move
          refine ER.silG rfl rfl rfl rfl rfl rfl (fun hc => Sil.eql (congrArg some (sel_eq hc _)) rfl) ?_  -- 15.7: t123 := binOp
          refine ER.sil rfl rfl rfl rfl (Sil.pickAnd rfl rfl rfl) ?_  -- 15.8: t124 := pick
          refine ER.sil rfl rfl rfl rfl (Sil.assign rfl) ?_  -- 15.9: t8 := assign
          refine ER.nil (fun w18 h18 => ?_)
          refine AQ.then ?_
          refine EC.ret ?_
          refine AQ.thenRet ?_
          refine AQ.ret1 Try.results5 rfl ?_
          exact ⟨by rw [(notFound hok).1, (notFound hok).2]; rfl, ((((hE.trans h13).trans h16).trans h17).trans h18)⟩
        ·
          have hok : (fOk ms (scopeL ms m) name want) = true := by simpa using hb4
          obtain ⟨i, hfm, hfe, hfo, hfi⟩ := found scopeL_in hok
          obtain ⟨ics, hicl, hiat, himc, hione⟩ := hms.image hfm
          obtain ⟨ev, vv, hev, hex, hvv, hvd⟩ := id himc
          obtain ⟨cs, hcl, hat, hco⟩ := hex.elem hfi
          refine EC.skip ?_
          refine AQ.then ?_
          refine EC.seq ?_
          -- region 16  law.go:150
          refine EC.draw (fun i => [1, 1, 1, 1, 1, 1, 1, 1, 1, 1, 1, 1, 1, 1, 1, 1, 1, 0, 1, 1, 0, 1, 1, 1, 1, 1, 1, 1, 1, 1, 1, 0, 1, 1, 1, 1, 0, 1, 1, 1, 1, 1, 0, 1, 1, 1, 0, 1, 1, 1, 1].getD i 0) [0, 1, 2, 3, 4, 5, 6, 7, 8, 9, 10, 11, 12, 13, 14, 15, 16, 17, 18, 19, 20, 21, 22, 23, 24, 25, 26, 27, 28, 29, 30, 31, 32, 33, 34, 35, 36, 37, 38, 39, 40, 41, 42, 43, 44, 45, 46, 47, 48, 49, 50] (by kernel_rfl) (by kernel_rfl) ?_
          refine ER.sil rfl rfl rfl rfl (Sil.move rfl) ?_  -- 16.0: t125 := move
          refine ER.sil rfl rfl rfl rfl (Sil.move rfl) ?_  -- 16.1: t126 := move
          refine ER.silG rfl rfl rfl rfl rfl rfl (fun hc => Sil.move rfl) ?_  -- 16.2: t127 := move
          refine ER.silG rfl rfl rfl rfl rfl rfl (fun hc => Sil.geq (congrArg some (sel_eq hc _)) rfl) ?_  -- 16.3: t128 := binOp
          refine ER.sil rfl rfl rfl rfl (Sil.pickAnd rfl rfl rfl) ?_  -- 16.4: t129 := pick
          refine ER.sil rfl rfl rfl rfl (Sil.move rfl) ?_  -- 16.5: t130 := move
          refine ER.silG rfl rfl rfl rfl rfl rfl (fun hc => Sil.move rfl) ?_  -- 16.6: t131 := move
          refine ER.silG rfl rfl rfl rfl rfl rfl (fun hc => Sil.move rfl) ?_  -- 16.7: t132 := move
          refine ER.silG rfl rfl rfl rfl rfl rfl (fun hc => Sil.lenR Try.underlying22 (congrArg some (sel_eq hc _)) (Mods.isS hms)) ?_  -- 16.8: t133 := call
          refine ER.silG rfl rfl rfl rfl rfl rfl (fun hc => Sil.lss (congrArg some (sel_eq hc _)) (congrArg some (sel_eq hc _))) ?_  -- 16.9: t134 := binOp
          refine ER.sil rfl rfl rfl rfl (Sil.pickAnd rfl rfl rfl) ?_  -- 16.10: t135 := pick
          refine ER.sil rfl rfl rfl rfl (Sil.move rfl) ?_  -- 16.11: t136 := move
          refine ER.silG rfl rfl rfl rfl rfl rfl (fun hc => Sil.move rfl) ?_  -- 16.12: t137 := move
          refine ER.silG rfl rfl rfl rfl rfl rfl (fun hc => Sil.move rfl) ?_  -- 16.13: t138 := move
          refine ER.silG rfl rfl rfl rfl rfl rfl (fun hc => Sil.move rfl) ?_  -- 16.14: t139 := move
          refine ER.silG rfl rfl rfl rfl rfl rfl (fun hc => Sil.indexR Try.underlying22 inf56 (congrArg some (sel_eq hc _)) (congrArg some (sel_eq hc _)) (Mods.isE hms (by have := hfm.1; have := hfm.2; omega)) (hfm.1) (hfm.2)) ?_  -- 16.15: t140 := indexAddr
          refine ER.silG rfl rfl rfl rfl rfl rfl (fun hc => Sil.fieldAddr Try.underlying56 rfl inf54 (congrArg some (sel_eq hc _))) ?_  -- 16.16: t141 := fieldAddr
          refine ER.exG rfl rfl rfl rfl rfl rfl (fun hc => Exa.loadAgg (vs := ics) (by rw [hicl]; exact agg54) (congrArg some (sel_eq hc _)) (hiat.ext (((hE.trans h13).trans h16).trans h17))) ?_  -- 16.17: t142 := load
          refine ER.silG rfl rfl rfl rfl rfl rfl (fun hc => Sil.move rfl) ?_  -- 16.18: t143 := move
          refine ER.silG rfl rfl rfl rfl rfl rfl (fun hc => Sil.move rfl) ?_  -- 16.19: t144 := move
          refine ER.exG rfl rfl rfl rfl rfl rfl (fun hc => Exa.call fok20 rfl (evs_cons (congrArg some (sel_eq hc _)) (evs_cons (congrArg some (sel_eq hc _)) (evs_cons (congrArg some (sel_eq hc _)) evs_nil))) (fun wx hx => (offered_any ics (moAt ms (fMod ms (scopeL ms m) name want)) name want wx (himc.ext ((((hE.trans h13).trans h16).trans h17).trans hx))))) ?_  -- 16.20: t145 := call
          refine ER.silG rfl rfl rfl rfl rfl rfl (fun hc => Sil.eql (congrArg some (sel_eq hc _)) (congrArg some (sel_eq hc _))) ?_  -- 16.21: t146 := binOp
          refine ER.sil rfl rfl rfl rfl (Sil.pickAnd rfl rfl rfl) ?_  -- 16.22: t147 := pick
          refine ER.sil rfl rfl rfl rfl (Sil.move rfl) ?_  -- 16.23: t148 := move
          refine ER.silG rfl rfl rfl rfl rfl rfl (fun hc => Sil.move rfl) ?_  -- 16.24: t149 := move
          refine ER.silG rfl rfl rfl rfl rfl rfl (fun hc => Sil.geq (congrArg some (sel_eq hc _)) rfl) ?_  -- 16.25: t150 := binOp
          refine ER.sil rfl rfl rfl rfl (Sil.pickAnd rfl rfl rfl) ?_  -- 16.26: t151 := pick
          refine ER.sil rfl rfl rfl rfl (Sil.move rfl) ?_  -- 16.27: t152 := move
          refine ER.silG rfl rfl rfl rfl rfl rfl (fun hc => Sil.move rfl) ?_  -- 16.28: t153 := move
          refine ER.silG rfl rfl rfl rfl rfl rfl (fun hc => Sil.move rfl) ?_  -- 16.29: t154 := move
          refine ER.silG rfl rfl rfl rfl rfl rfl (fun hc => Sil.move rfl) ?_  -- 16.30: t155 := move
          refine ER.exG rfl rfl rfl rfl rfl rfl (fun hc => Exa.call fok15 rfl (evs_cons (congrArg some (sel_eq hc _)) (evs_cons (congrArg some (sel_eq hc _)) (evs_cons (congrArg some (sel_eq hc _)) evs_nil))) (fun wx hx => (Address_any ms v (fMod ms (scopeL ms m) name want) (fExp ms (scopeL ms m) name want) wx (hms.ext ((((hE.trans h13).trans h16).trans h17).trans hx))))) ?_  -- 16.31: t156 := call
          refine ER.silG rfl rfl rfl rfl rfl rfl (fun hc => Sil.move rfl) ?_  -- 16.32: t157 := move
          refine ER.silG rfl rfl rfl rfl rfl rfl (fun hc => Sil.move rfl) ?_  -- 16.33: t158 := move
          refine ER.silG rfl rfl rfl rfl rfl rfl (fun hc => Sil.indexR Try.underlying22 inf56 (congrArg some (sel_eq hc _)) (congrArg some (sel_eq hc _)) (Mods.isE hms (by have := hfm.1; have := hfm.2; omega)) (hfm.1) (hfm.2)) ?_  -- 16.34: t159 := indexAddr
          refine ER.silG rfl rfl rfl rfl rfl rfl (fun hc => Sil.fieldAddr Try.underlying56 rfl inf3 (congrArg some (sel_eq hc _))) ?_  -- 16.35: t160 := fieldAddr
          refine ER.exG rfl rfl rfl rfl rfl rfl (fun hc => Exa.load flat3 (congrArg some (sel_eq hc _)) (Mods.base (hms.ext (((hE.trans h13).trans h16).trans h17)) hfm)) ?_  -- 16.36: t161 := load
          refine ER.silG rfl rfl rfl rfl rfl rfl (fun hc => Sil.move rfl) ?_  -- 16.37: t162 := move
          refine ER.silG rfl rfl rfl rfl rfl rfl (fun hc => Sil.move rfl) ?_  -- 16.38: t163 := move
          refine ER.silG rfl rfl rfl rfl rfl rfl (fun hc => Sil.indexR Try.underlying22 inf56 (congrArg some (sel_eq hc _)) (congrArg some (sel_eq hc _)) (Mods.isE hms (by have := hfm.1; have := hfm.2; omega)) (hfm.1) (hfm.2)) ?_  -- 16.39: t164 := indexAddr
          refine ER.silG rfl rfl rfl rfl rfl rfl (fun hc => Sil.fieldAddr Try.underlying56 rfl inf54 (congrArg some (sel_eq hc _))) ?_  -- 16.40: t165 := fieldAddr
          refine ER.silG rfl rfl rfl rfl rfl rfl (fun hc => Sil.fieldAddr Try.underlying54 rfl inf39 (congrArg some (sel_eq hc _))) ?_  -- 16.41: t166 := fieldAddr
          refine ER.exG rfl rfl rfl rfl rfl rfl (fun hc => Exa.load flat39 (congrArg some (sel_eq hc _)) (cell_ext (((hE.trans h13).trans h16).trans h17) (hiat _ _ hev))) ?_  -- 16.42: t167 := load
          refine ER.silG rfl rfl rfl rfl rfl rfl (fun hc => Sil.move rfl) ?_  -- 16.43: t168 := move
          refine ER.silG rfl rfl rfl rfl rfl rfl (fun hc => Sil.indexR Try.underlying39 inf62 (congrArg some (sel_eq hc _)) (congrArg some (sel_eq hc _)) (Exs.isE hex (by omega)) (by rw [hfe]; omega) (by rw [hfe]; omega)) ?_  -- 16.44: t169 := indexAddr
          refine ER.silG rfl rfl rfl rfl rfl rfl (fun hc => Sil.fieldAddr Try.underlying62 rfl inf3 (congrArg some (sel_eq hc _))) ?_  -- 16.45: t170 := fieldAddr
          refine ER.exG rfl rfl rfl rfl rfl rfl (fun hc => Exa.load flat3 (congrArg some (sel_eq hc _)) (by rw [hfe, Int.toNat_natCast]; exact cell_ext (((hE.trans h13).trans h16).trans h17) (hat _ _ hco.2.2.2.2.1))) ?_  -- 16.46: t171 := load
          refine ER.silG rfl rfl rfl rfl rfl rfl (fun hc => Sil.add (congrArg some (sel_eq hc _)) (congrArg some (sel_eq hc _))) ?_  -- 16.47: t172 := binOp
          refine ER.silG rfl rfl rfl rfl rfl rfl (fun hc => Sil.eql (congrArg some (sel_eq hc _)) (congrArg some (sel_eq hc _))) ?_  -- 16.48: t173 := binOp
          refine ER.sil rfl rfl rfl rfl (Sil.pickAnd rfl rfl rfl) ?_  -- 16.49: t174 := pick
          refine ER.sil rfl rfl rfl rfl (Sil.assign rfl) ?_  -- 16.50: t8 := assign
          refine ER.nil (fun w19 h19 => ?_)
          refine AQ.then ?_
          refine EC.ret ?_
          refine AQ.ret1 Try.results5 rfl ?_
          refine ⟨?_, ((((hE.trans h13).trans h16).trans h17).trans h19)⟩
          rw [hfo, decide_eq_true hfm.1, decide_eq_true hfm.2, hfe, addr_found hfm hfi, decide_eq_true (show (0 : Int) ≤ (i : Int) by omega)]
          simp

end Go.Proofs.Ytgagjmapjdeknaa
