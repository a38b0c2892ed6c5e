/- Locate: the law Vars, walked. -/
import Derived.Test.YtcgapppamhffjaaW18
namespace Go.Proofs.Ytcgapppamhffjaa
open Go.RowKit Go.XK Go.LocateLaw

-- linchpin/linchpinlaw42.LocateVars: parameters ['api.Image', 'int'] (free 0), results [('ResultVar.tmp', 4)], 198 slots
set_option maxRecDepth 100000 in
theorem lvars_any (cs : List Value) (inf : Inf) (p : Int) (w : World) (hi : InfC w cs inf) :
    Calls Try.prog 4 [.agg cs.toArray, .int .i64 p].toArray w fun e w' => e = .returned (.bool true) ∧ Ext w w' := by
  obtain ⟨vv, hvv, hvl⟩ := hi.2.2.2.2.2.1
  obtain ⟨iv, hiv, hil⟩ := hi.2.2.2.2.1
  have hvm := hvl.max
  have hcl := hi.len
  refine calls_of Try.func4 rfl Try.ntmps4 rfl ?_
  refine EC.seq ?_
  -- region 0  law.go:125
  refine EC.region (fun i => [2, 1].getD i 0) [0, 1] rfl ?_
  refine ER.st rfl rfl rfl rfl (fun w1 h1 => Stp.box rfl (fun w2 h2 s2 r2 => ⟨h2, ?_⟩))  -- 0.0: t2 := box
  refine ER.sil rfl rfl rfl rfl (Sil.assign rfl) ?_  -- 0.1: t4 := assign
  refine ER.nil (fun w3 h3 => ?_)
  refine AQ.then ?_
  refine EC.seq ?_
  -- region 1  law.go:126
  refine EC.region (fun i => [0, 1].getD i 0) [0, 1] rfl ?_
  refine ER.ex rfl rfl rfl rfl (Exa.call fok5 rfl rfl (fun wx hx => (small_any wx))) ?_  -- 1.0: t20 := call
  refine ER.sil rfl rfl rfl rfl (Sil.assign rfl) ?_  -- 1.1: t5 := assign
  refine ER.nil (fun w4 h4 => ?_)
  refine AQ.then ?_
  refine EC.seq ?_
  refine EC.seq ?_
  -- region 2  law.go:127
  refine EC.region (fun i => [0, 0, 1].getD i 0) [0, 1, 2] rfl ?_
  refine ER.ex rfl rfl rfl rfl (Exa.loadAgg (vs := cs) (by rw [hi.len]; exact agg39) rfl ((r2.ext (h3.trans h4)).at)) ?_  -- 2.0: t21 := load
  refine ER.ex rfl rfl rfl rfl (Exa.call fok6 rfl rfl (fun wx hx => (few_any cs inf wx (hi.ext ((((h1.trans h2).trans h3).trans h4).trans hx))))) ?_  -- 2.1: t22 := call
  refine ER.sil rfl rfl rfl rfl (Sil.not rfl) ?_  -- 2.2: t23 := unOp
  refine ER.nil (fun w5 h5 => ?_)
  refine AQ.then ?_
  refine EC.cond rfl (fun hb0 => ?_) (fun hb0 => ?_)  -- cond 0: t23
  ·
    refine EC.seq ?_
    -- region 3  law.go:128
    refine EC.region (fun i => [1, 1].getD i 0) [0, 1] rfl ?_
    refine ER.sil rfl rfl rfl rfl (Sil.move rfl) ?_  -- 3.0: t24 := move
    refine ER.sil rfl rfl rfl rfl (Sil.assign rfl) ?_  -- 3.1: t4 := assign
    refine ER.nil (fun w6 h6 => ?_)
    refine AQ.then ?_
    refine EC.ret ?_
    refine AQ.thenRet ?_
    refine AQ.ret1 Try.results4 rfl ?_
    exact ⟨rfl, (((((h1.trans h2).trans h3).trans h4).trans h5).trans h6)⟩
  ·
    have hf : fewB inf = true := by simpa using hb0
    obtain ⟨f1, f2, f3, f4, f5⟩ := fewB_iff.1 hf
    refine EC.skip ?_
    refine AQ.then ?_
    refine EC.seq ?_
    -- region 4  law.go:130
    refine EC.region (fun i => [0, 1, 2, 1].getD i 0) [0, 1, 2, 3] rfl ?_
    refine ER.ex rfl rfl rfl rfl (Exa.loadAgg (vs := cs) (by rw [hi.len]; exact agg39) rfl ((r2.ext ((h3.trans h4).trans h5)).at)) ?_  -- 4.0: t25 := load
    refine ER.sil rfl rfl rfl rfl (Sil.move rfl) ?_  -- 4.1: t26 := move
    refine ER.st rfl rfl rfl rfl (fun w7 h7 => Stp.call fok13 rfl rfl (Calls.mono ((vars_any cs inf p w7 (hi.ext (((((h1.trans h2).trans h3).trans h4).trans h5).trans h7)) f5)) ?_))  -- 4.2: t27 := call
    rintro _ w8 ⟨v8, rfl, h8, lv8⟩
    refine ⟨_, rfl, h8, ?_⟩
    refine ER.sil rfl rfl rfl rfl (Sil.assign rfl) ?_  -- 4.3: t6 := assign
    refine ER.nil (fun w9 h9 => ?_)
    refine AQ.then ?_
    refine EC.seq ?_
    -- region 5  law.go:131
    refine EC.region (fun i => [0, 1, 2, 1, 1, 1, 2, 3, 1].getD i 0) [0, 1, 2, 3, 4, 5, 6, 7, 8] rfl ?_
    refine ER.ex rfl rfl rfl rfl (Exa.loadAgg (vs := cs) (by rw [hi.len]; exact agg39) rfl ((r2.ext (((((h3.trans h4).trans h5).trans h7).trans h8).trans h9)).at)) ?_  -- 5.0: t29 := load
    refine ER.sil rfl rfl rfl rfl (Sil.move rfl) ?_  -- 5.1: t30 := move
    refine ER.st rfl rfl rfl rfl (fun w10 h10 => Stp.call fok7 rfl rfl (Calls.mono ((at_any cs inf p w10 (hi.ext ((((((((h1.trans h2).trans h3).trans h4).trans h5).trans h7).trans h8).trans h9).trans h10)) f4)) ?_))  -- 5.2: t31 := call
    rintro _ w11 ⟨v11, rfl, h11, la11⟩
    refine ⟨_, rfl, h11, ?_⟩
    obtain ⟨a11, c11, rfl, _⟩ := LR.isS la11
    refine ER.sil rfl rfl rfl rfl (Sil.move rfl) ?_  -- 5.3: t28 := move
    refine ER.sil rfl rfl rfl rfl (Sil.extract rfl rfl) ?_  -- 5.4: t32 := extract
    refine ER.sil rfl rfl rfl rfl (Sil.extract rfl rfl) ?_  -- 5.5: t33 := extract
    refine ER.st rfl rfl rfl rfl (fun w12 h12 => Stp.alloc inf43 (fun w13 h13 s13 r13 => ⟨h13, ?_⟩))  -- 5.6: t7 := alloc
    refine ER.bar rfl rfl rfl rfl (fun w14 h14 => Stp.store (by kernel_rfl) rfl rfl (r13.ext h14) rfl rfl (fun w15 u15 r15 => ?_))  -- 5.7: tNone := store
    have e15 := ((h12.trans h13).trans h14).upd u15 h12.size
    refine ER.sil rfl rfl rfl rfl (Sil.assign rfl) ?_  -- 5.8: t8 := assign
    refine ER.nil (fun w16 h16 => ?_)
    refine AQ.then ?_
    refine EC.seq ?_
    refine EC.seq ?_
    -- region 6  law.go:132
    refine EC.region (fun i => [1].getD i 0) [0] rfl ?_
    refine ER.sil rfl rfl rfl rfl (Sil.assign rfl) ?_  -- 6.0: t9 := assign
    refine ER.nil (fun w17 h17 => ?_)
    have hI := ((((((((((((h1.trans h2).trans h3).trans h4).trans h5).trans h7).trans h8).trans h9).trans h10).trans h11).trans e15).trans h16).trans h17)
    have lvI := (lv8.ext (((((h9.trans h10).trans h11).trans e15).trans h16).trans h17))
    have k2 := (r2.ext ((((((((((h3.trans h4).trans h5).trans h7).trans h8).trans h9).trans h10).trans h11).trans e15).trans h16).trans h17))
    have k7 := (r15.ext (h16.trans h17))
    have hlm := lvI.max
    have hvs : (varsS inf p).length ≤ 60 := Nat.le_trans (varsS_len inf p) f5
    refine AQ.then ?_
    refine EC.block ?_
    refine EC.loop (σ := Nat) (fun i => [(1, .int .i64 p), (2, ptr w1.heap.size), (5, .bool true), (6, v8), (7, ptr w12.heap.size), (8, .bool (atB inf p)), (9, .int .i64 (i : Int))]) (fun i wr => Ext w17 wr ∧ i ≤ (varsS inf p).length) (fun i => (varsS inf p).length - i) 0 [1, 2, 5, 6, 7, 8, 9] rfl ?_ (fun i wr hF => ?_)
    · exact ⟨Ext.refl _, Nat.zero_le _⟩
    obtain ⟨hE, hik⟩ := hF
    have q2 := k2.ext hE
    have q7 := k7.ext hE
    refine EC.seq ?_
    refine EC.seq ?_
    -- region 7  law.go:132
    refine EC.region (fun i => [1, 1, 1, 1].getD i 0) [0, 1, 2, 3] rfl ?_
    refine ER.sil rfl rfl rfl rfl (Sil.move rfl) ?_  -- 7.0: t34 := move
    refine ER.sil rfl rfl rfl rfl (Sil.move rfl) ?_  -- 7.1: t35 := move
    refine ER.sil rfl rfl rfl rfl (Sil.lenR Try.underlying33 rfl ((lvI.ext hE).isS)) ?_  -- 7.2: t36 := call
    refine ER.sil rfl rfl rfl rfl (Sil.lss rfl rfl) ?_  -- 7.3: t37 := binOp
    refine ER.nil (fun w18 h18 => ?_)
    refine AQ.then ?_
    refine EC.cond rfl (fun hb1 => ?_) (fun hb1 => ?_)  -- cond 1: t37
    ·
      have hit : i < (varsS inf p).length := by have := of_decide_eq_true hb1; omega
      refine EC.skip ?_
      refine AQ.then ?_
      refine EC.seq ?_
      refine EC.block ?_
      refine EC.seq ?_
      -- region 9  law.go:133
      refine EC.region (fun i => [1].getD i 0) [0] rfl ?_
      refine ER.sil rfl rfl rfl rfl (Sil.assign rfl) ?_  -- 9.0: t10 := assign
      refine ER.nil (fun w19 h19 => ?_)
      refine AQ.then ?_
      refine EC.seq ?_
      refine EC.seq ?_
      -- region 10  law.go:134
      refine EC.region (fun i => [1].getD i 0) [0] rfl ?_
      refine ER.sil rfl rfl rfl rfl (Sil.assign rfl) ?_  -- 10.0: t11 := assign
      refine ER.nil (fun w20 h20 => ?_)
      refine AQ.then ?_
      refine EC.block ?_
      refine EC.loop (σ := Nat) (fun k => [(1, .int .i64 p), (2, ptr w1.heap.size), (5, .bool true), (6, v8), (7, ptr w12.heap.size), (8, .bool (atB inf p)), (9, .int .i64 (i : Int)), (10, .bool ((inf.vars.take k).any fun y => decide (y = (varsS inf p)[i]))), (11, .int .i64 (k : Int))]) (fun k wr => Ext w17 wr ∧ k ≤ inf.vars.length) (fun k => inf.vars.length - k) 0 [1, 2, 5, 6, 7, 8, 9, 10, 11] rfl ?_ (fun k wr hF => ?_)
      · exact ⟨(((hE.trans h18).trans h19).trans h20), Nat.zero_le _⟩
      obtain ⟨hE, hk⟩ := hF
      have q2 := k2.ext hE
      have q7 := k7.ext hE
      refine EC.seq ?_
      refine EC.seq ?_
      -- region 11  law.go:134
      refine EC.region (fun i => [1, 1, 1, 0, 1, 1].getD i 0) [0, 1, 2, 3, 4, 5] rfl ?_
      refine ER.sil rfl rfl rfl rfl (Sil.move rfl) ?_  -- 11.0: t40 := move
      refine ER.sil rfl rfl rfl rfl (Sil.fieldAddr Try.underlying39 rfl inf36 rfl) ?_  -- 11.1: t41 := fieldAddr
      refine ER.sil rfl rfl rfl rfl (Sil.fieldAddr Try.underlying36 rfl inf33 rfl) ?_  -- 11.2: t42 := fieldAddr
      refine ER.ex rfl rfl rfl rfl (Exa.load flat33 rfl ((q2).cell hvv)) ?_  -- 11.3: t43 := load
      refine ER.sil rfl rfl rfl rfl (Sil.lenR Try.underlying33 rfl (hvl.isS)) ?_  -- 11.4: t44 := call
      refine ER.sil rfl rfl rfl rfl (Sil.lss rfl rfl) ?_  -- 11.5: t45 := binOp
      refine ER.nil (fun w21 h21 => ?_)
      refine AQ.then ?_
      refine EC.cond rfl (fun hb2 => ?_) (fun hb2 => ?_)  -- cond 2: t45
      ·
        have hkt : k < inf.vars.length := by have := of_decide_eq_true hb2; omega
        refine EC.skip ?_
        refine AQ.then ?_
        refine EC.seq ?_
        refine EC.block ?_
        -- region 13  law.go:135
        refine EC.draw (fun i => [1, 1, 1, 1, 0, 1, 1, 0, 1, 1, 1, 0, 1, 1, 1].getD i 0) [0, 1, 2, 3, 4, 5, 6, 7, 8, 9, 10, 11, 12, 13, 14] (by kernel_rfl) (by kernel_rfl) ?_
        refine ER.sil rfl rfl rfl rfl (Sil.move rfl) ?_  -- 13.0: t48 := move
        refine ER.sil rfl rfl rfl rfl (Sil.move rfl) ?_  -- 13.1: t49 := move
        refine ER.silG rfl rfl rfl rfl rfl rfl (fun hc => Sil.fieldAddr Try.underlying39 rfl inf36 rfl) ?_  -- 13.2: t50 := fieldAddr
        refine ER.silG rfl rfl rfl rfl rfl rfl (fun hc => Sil.fieldAddr Try.underlying36 rfl inf33 (congrArg some (sel_eq hc _))) ?_  -- 13.3: t51 := fieldAddr
        refine ER.exG rfl rfl rfl rfl rfl rfl (fun hc => Exa.load flat33 (congrArg some (sel_eq hc _)) (((q2.ext h21)).cell hvv)) ?_  -- 13.4: t52 := load
        refine ER.silG rfl rfl rfl rfl rfl rfl (fun hc => Sil.move rfl) ?_  -- 13.5: t53 := move
        refine ER.silG rfl rfl rfl rfl rfl rfl (fun hc => Sil.indexR Try.underlying33 inf55 (congrArg some (sel_eq hc _)) (congrArg some (sel_eq hc _)) (hvl.isE (by omega)) (by omega) (by omega)) ?_  -- 13.6: t54 := indexAddr
        refine ER.exG rfl rfl rfl rfl rfl rfl (fun hc => Exa.loadAgg (by exact agg55) (congrArg some (sel_eq hc _)) ((hvl.at hkt).ext (hI.trans (hE.trans h21)))) ?_  -- 13.7: t55 := load
        refine ER.silG rfl rfl rfl rfl rfl rfl (fun hc => Sil.move rfl) ?_  -- 13.8: t56 := move
        refine ER.silG rfl rfl rfl rfl rfl rfl (fun hc => Sil.move rfl) ?_  -- 13.9: t57 := move
        refine ER.silG rfl rfl rfl rfl rfl rfl (fun hc => Sil.indexR Try.underlying33 inf55 (congrArg some (sel_eq hc _)) (congrArg some (sel_eq hc _)) ((lvI.ext (hE.trans h21)).isE (by omega)) (by omega) (by omega)) ?_  -- 13.10: t58 := indexAddr
        refine ER.exG rfl rfl rfl rfl rfl rfl (fun hc => Exa.loadAgg (by exact agg55) (congrArg some (sel_eq hc _)) ((lvI.ext (hE.trans h21)).at hit)) ?_  -- 13.11: t59 := load
        refine ER.silG rfl rfl rfl rfl rfl rfl (fun hc => Sil.teql (fun wy => vr_eql _ _ inf.vars[k] (varsS inf p)[i] wy) (congrArg some (sel_eq hc _)) (congrArg some (sel_eq hc _))) ?_  -- 13.12: t60 := binOp
        refine ER.sil rfl rfl rfl rfl (Sil.pickOr rfl rfl rfl) ?_  -- 13.13: t61 := pick
        refine ER.sil rfl rfl rfl rfl (Sil.assign rfl) ?_  -- 13.14: t10 := assign
        refine ER.nil (fun w22 h22 => ?_)
        refine AQ.blockNormal ?_
        refine AQ.then ?_
        -- region 12  law.go:134
        refine EC.region (fun i => [1, 1, 1].getD i 0) [0, 1, 2] rfl ?_
        refine ER.sil rfl rfl rfl rfl (Sil.move rfl) ?_  -- 12.0: t46 := move
        refine ER.sil rfl rfl rfl rfl (Sil.add rfl rfl) ?_  -- 12.1: t47 := binOp
        refine ER.sil rfl rfl rfl rfl (Sil.assign rfl) ?_  -- 12.2: t11 := assign
        refine ER.nil (fun w23 h23 => ?_)
        exact AQ.round (k + 1) [1, 2, 5, 6, 7, 8, 9, 10, 11] (by rw [← wrap_succ hkt hvm, ← take_any _ hkt]; rfl) ⟨(((hE.trans h21).trans h22).trans h23), hkt⟩ (by omega)
      ·
        have hge2 : k = inf.vars.length := by have := of_decide_eq_false hb2; omega
        refine EC.exit ?_
        refine AQ.thenExit ?_
        refine AQ.thenExit ?_
        refine AQ.blockHit ?_
        refine AQ.then ?_
        refine EC.seq ?_
        refine EC.seq ?_
        -- region 14  law.go:137
        refine EC.region (fun i => [1, 1, 1, 1, 1, 1, 1, 0, 1, 1, 1, 1, 1, 1, 1, 1, 0, 1, 1, 1].getD i 0) [0, 1, 2, 3, 4, 5, 6, 7, 8, 9, 10, 11, 12, 13, 14, 15, 16, 17, 18, 19] rfl ?_
        refine ER.sil rfl rfl rfl rfl (Sil.move rfl) ?_  -- 14.0: t62 := move
        refine ER.sil rfl rfl rfl rfl (Sil.not rfl) ?_  -- 14.1: t63 := unOp
        refine ER.sil rfl rfl rfl rfl (Sil.move rfl) ?_  -- 14.2: t64 := move
        refine ER.silG rfl rfl rfl rfl rfl rfl (fun hc => Sil.move rfl) ?_  -- 14.3: t65 := move
        refine ER.silG rfl rfl rfl rfl rfl rfl (fun hc => Sil.move rfl) ?_  -- 14.4: t66 := move
        refine ER.silG rfl rfl rfl rfl rfl rfl (fun hc => Sil.indexR Try.underlying33 inf55 (congrArg some (sel_eq hc _)) (congrArg some (sel_eq hc _)) ((lvI.ext (hE.trans h21)).isE (by omega)) (by omega) (by omega)) ?_  -- 14.5: t67 := indexAddr
        refine ER.silG rfl rfl rfl rfl rfl rfl (fun hc => Sil.fieldAddr Try.underlying55 rfl inf3 (congrArg some (sel_eq hc _))) ?_  -- 14.6: t68 := fieldAddr
        refine ER.exG rfl rfl rfl rfl rfl rfl (fun hc => Exa.load flat3 (congrArg some (sel_eq hc _)) (((lvI.ext (hE.trans h21)).at hit) 1 _ rfl)) ?_  -- 14.7: t69 := load
        refine ER.silG rfl rfl rfl rfl rfl rfl (fun hc => Sil.move rfl) ?_  -- 14.8: t70 := move
        refine ER.silG rfl rfl rfl rfl rfl rfl (fun hc => Sil.gtr (congrArg some (sel_eq hc _)) (congrArg some (sel_eq hc _))) ?_  -- 14.9: t71 := binOp
        refine ER.sil rfl rfl rfl rfl (Sil.pickOr rfl rfl rfl) ?_  -- 14.10: t72 := pick
        refine ER.sil rfl rfl rfl rfl (Sil.move rfl) ?_  -- 14.11: t73 := move
        refine ER.silG rfl rfl rfl rfl rfl rfl (fun hc => Sil.move rfl) ?_  -- 14.12: t74 := move
        refine ER.silG rfl rfl rfl rfl rfl rfl (fun hc => Sil.move rfl) ?_  -- 14.13: t75 := move
        refine ER.silG rfl rfl rfl rfl rfl rfl (fun hc => Sil.indexR Try.underlying33 inf55 (congrArg some (sel_eq hc _)) (congrArg some (sel_eq hc _)) ((lvI.ext (hE.trans h21)).isE (by omega)) (by omega) (by omega)) ?_  -- 14.14: t76 := indexAddr
        refine ER.silG rfl rfl rfl rfl rfl rfl (fun hc => Sil.fieldAddr Try.underlying55 rfl inf3 (congrArg some (sel_eq hc _))) ?_  -- 14.15: t77 := fieldAddr
        refine ER.exG rfl rfl rfl rfl rfl rfl (fun hc => Exa.load flat3 (congrArg some (sel_eq hc _)) (((lvI.ext (hE.trans h21)).at hit) 2 _ rfl)) ?_  -- 14.16: t78 := load
        refine ER.silG rfl rfl rfl rfl rfl rfl (fun hc => Sil.move rfl) ?_  -- 14.17: t79 := move
        refine ER.silG rfl rfl rfl rfl rfl rfl (fun hc => Sil.leq (congrArg some (sel_eq hc _)) (congrArg some (sel_eq hc _))) ?_  -- 14.18: t80 := binOp
        refine ER.sil rfl rfl rfl rfl (Sil.pickOr rfl rfl rfl) ?_  -- 14.19: t81 := pick
        refine ER.nil (fun w24 h24 => ?_)
        refine AQ.then ?_
        refine EC.cond rfl (fun hb3 => ?_) (fun hb3 => ?_)  -- cond 3: t81
        ·
          obtain ⟨m1, m2, m3⟩ := varsS_mem (List.getElem_mem hit)
          have hany : (inf.vars.any fun y => decide (y = (varsS inf p)[i])) = true := List.any_eq_true.2 ⟨_, m1, by simp⟩
          rw [hge2, List.take_length, hany, decide_eq_false (by omega), decide_eq_false (by omega)] at hb3
          cases hb3
        ·
          refine EC.skip ?_
          refine AQ.then ?_
          refine EC.seq ?_
          -- region 16  law.go:140
          refine EC.region (fun i => [1].getD i 0) [0] rfl ?_
          refine ER.sil rfl rfl rfl rfl (Sil.assign rfl) ?_  -- 16.0: t12 := assign
          refine ER.nil (fun w25 h25 => ?_)
          refine AQ.then ?_
          refine EC.block ?_
          refine EC.loop (σ := Nat) (fun k => [(1, .int .i64 p), (2, ptr w1.heap.size), (5, .bool true), (6, v8), (7, ptr w12.heap.size), (8, .bool (atB inf p)), (9, .int .i64 (i : Int)), (12, .int .i64 (k : Int))]) (fun k wr => Ext w17 wr ∧ k ≤ i) (fun k => i - k) 0 [1, 2, 5, 6, 7, 8, 9, 12] rfl ?_ (fun k wr hF => ?_)
          · exact ⟨(((hE.trans h21).trans h24).trans h25), Nat.zero_le _⟩
          obtain ⟨hE, hk⟩ := hF
          have q2 := k2.ext hE
          have q7 := k7.ext hE
          refine EC.seq ?_
          refine EC.seq ?_
          -- region 17  law.go:140
          refine EC.region (fun i => [1, 1, 1].getD i 0) [0, 1, 2] rfl ?_
          refine ER.sil rfl rfl rfl rfl (Sil.move rfl) ?_  -- 17.0: t82 := move
          refine ER.sil rfl rfl rfl rfl (Sil.move rfl) ?_  -- 17.1: t83 := move
          refine ER.sil rfl rfl rfl rfl (Sil.lss rfl rfl) ?_  -- 17.2: t84 := binOp
          refine ER.nil (fun w26 h26 => ?_)
          refine AQ.then ?_
          refine EC.cond rfl (fun hb4 => ?_) (fun hb4 => ?_)  -- cond 4: t84
          ·
            have hki : k < i := by have := of_decide_eq_true hb4; omega
            refine EC.skip ?_
            refine AQ.then ?_
            refine EC.seq ?_
            refine EC.block ?_
            refine EC.seq ?_
            -- region 19  law.go:141
            refine EC.draw (fun i => [1, 1, 1, 1, 0, 1, 1, 1, 1, 0, 1].getD i 0) [0, 1, 2, 3, 4, 5, 6, 7, 8, 9, 10] (by kernel_rfl) (by kernel_rfl) ?_
            refine ER.sil rfl rfl rfl rfl (Sil.move rfl) ?_  -- 19.0: t87 := move
            refine ER.sil rfl rfl rfl rfl (Sil.move rfl) ?_  -- 19.1: t88 := move
            refine ER.sil rfl rfl rfl rfl (Sil.indexR Try.underlying33 inf55 rfl rfl ((lvI.ext (hE.trans h26)).isE (by omega)) (by omega) (by omega)) ?_  -- 19.2: t89 := indexAddr
            refine ER.sil rfl rfl rfl rfl (Sil.fieldAddr Try.underlying55 rfl inf9 rfl) ?_  -- 19.3: t90 := fieldAddr
            refine ER.ex rfl rfl rfl rfl (Exa.load flat9 rfl (((lvI.ext (hE.trans h26)).at (show k < _ by omega)) 3 _ rfl)) ?_  -- 19.4: t91 := load
            refine ER.sil rfl rfl rfl rfl (Sil.move rfl) ?_  -- 19.5: t92 := move
            refine ER.sil rfl rfl rfl rfl (Sil.move rfl) ?_  -- 19.6: t93 := move
            refine ER.sil rfl rfl rfl rfl (Sil.indexR Try.underlying33 inf55 rfl rfl ((lvI.ext (hE.trans h26)).isE (by omega)) (by omega) (by omega)) ?_  -- 19.7: t94 := indexAddr
            refine ER.sil rfl rfl rfl rfl (Sil.fieldAddr Try.underlying55 rfl inf9 rfl) ?_  -- 19.8: t95 := fieldAddr
            refine ER.ex rfl rfl rfl rfl (Exa.load flat9 rfl (((lvI.ext (hE.trans h26)).at hit) 3 _ rfl)) ?_  -- 19.9: t96 := load
            refine ER.sil rfl rfl rfl rfl (Sil.seql rfl rfl) ?_  -- 19.10: t97 := binOp
            refine ER.nil (fun w27 h27 => ?_)
            refine AQ.then ?_
            refine EC.cond rfl (fun hb5 => ?_) (fun hb5 => ?_)  -- cond 5: t97
            ·
              exact absurd (of_decide_eq_true hb5) (List.pairwise_iff_getElem.1 (varsS_nodup inf p) k i (by omega) hit hki)
            ·
              refine EC.skip ?_
              refine AQ.blockNormal ?_
              refine AQ.then ?_
              -- region 18  law.go:140
              refine EC.region (fun i => [1, 1, 1].getD i 0) [0, 1, 2] rfl ?_
              refine ER.sil rfl rfl rfl rfl (Sil.move rfl) ?_  -- 18.0: t85 := move
              refine ER.sil rfl rfl rfl rfl (Sil.add rfl rfl) ?_  -- 18.1: t86 := binOp
              refine ER.sil rfl rfl rfl rfl (Sil.assign rfl) ?_  -- 18.2: t12 := assign
              refine ER.nil (fun w28 h28 => ?_)
              exact AQ.round (k + 1) [1, 2, 5, 6, 7, 8, 9, 12] (by rw [← wrap_succ (n := i) hki (by unfold maxLen; omega)]; rfl) ⟨(((hE.trans h26).trans h27).trans h28), hki⟩ (by omega)
          ·
            refine EC.exit ?_
            refine AQ.thenExit ?_
            refine AQ.thenExit ?_
            refine AQ.blockHit ?_
            refine AQ.blockNormal ?_
            refine AQ.then ?_
            -- region 8  law.go:132
            refine EC.region (fun i => [1, 1, 1].getD i 0) [0, 1, 2] rfl ?_
            refine ER.sil rfl rfl rfl rfl (Sil.move rfl) ?_  -- 8.0: t38 := move
            refine ER.sil rfl rfl rfl rfl (Sil.add rfl rfl) ?_  -- 8.1: t39 := binOp
            refine ER.sil rfl rfl rfl rfl (Sil.assign rfl) ?_  -- 8.2: t9 := assign
            refine ER.nil (fun w29 h29 => ?_)
            exact AQ.round (i + 1) [1, 2, 5, 6, 7, 8, 9] (by rw [← wrap_succ hit hlm]; rfl) ⟨((hE.trans h26).trans h29), hit⟩ (by omega)
    ·
      refine EC.exit ?_
      refine AQ.thenExit ?_
      refine AQ.thenExit ?_
      refine AQ.blockHit ?_
      refine AQ.then ?_
      refine EC.seq ?_
      refine EC.seq ?_
      -- region 21  law.go:146
      refine EC.region (fun i => [1].getD i 0) [0] rfl ?_
      refine ER.sil rfl rfl rfl rfl (Sil.assign rfl) ?_  -- 21.0: t13 := assign
      refine ER.nil (fun w30 h30 => ?_)
      refine AQ.then ?_
      refine EC.block ?_
      refine EC.loop (σ := Nat) (fun k => [(1, .int .i64 p), (2, ptr w1.heap.size), (5, .bool true), (6, v8), (7, ptr w12.heap.size), (8, .bool (atB inf p)), (13, .int .i64 (k : Int))]) (fun k wr => Ext w17 wr ∧ k ≤ inf.vars.length) (fun k => inf.vars.length - k) 0 [1, 2, 5, 6, 7, 8, 13] rfl ?_ (fun k wr hF => ?_)
      · exact ⟨((hE.trans h18).trans h30), Nat.zero_le _⟩
      obtain ⟨hE, hk⟩ := hF
      have q2 := k2.ext hE
      have q7 := k7.ext hE
      refine EC.seq ?_
      refine EC.seq ?_
      -- region 22  law.go:146
      refine EC.region (fun i => [1, 1, 1, 0, 1, 1].getD i 0) [0, 1, 2, 3, 4, 5] rfl ?_
      refine ER.sil rfl rfl rfl rfl (Sil.move rfl) ?_  -- 22.0: t98 := move
      refine ER.sil rfl rfl rfl rfl (Sil.fieldAddr Try.underlying39 rfl inf36 rfl) ?_  -- 22.1: t99 := fieldAddr
      refine ER.sil rfl rfl rfl rfl (Sil.fieldAddr Try.underlying36 rfl inf33 rfl) ?_  -- 22.2: t100 := fieldAddr
      refine ER.ex rfl rfl rfl rfl (Exa.load flat33 rfl ((q2).cell hvv)) ?_  -- 22.3: t101 := load
      refine ER.sil rfl rfl rfl rfl (Sil.lenR Try.underlying33 rfl (hvl.isS)) ?_  -- 22.4: t102 := call
      refine ER.sil rfl rfl rfl rfl (Sil.lss rfl rfl) ?_  -- 22.5: t103 := binOp
      refine ER.nil (fun w31 h31 => ?_)
      refine AQ.then ?_
      refine EC.cond rfl (fun hb6 => ?_) (fun hb6 => ?_)  -- cond 6: t103
      ·
        have hkt : k < inf.vars.length := by have := of_decide_eq_true hb6; omega
        refine EC.skip ?_
        refine AQ.then ?_
        refine EC.seq ?_
        refine EC.block ?_
        refine EC.seq ?_
        -- region 24  law.go:147
        refine EC.region (fun i => [1, 1, 0, 1, 1, 0, 2, 3].getD i 0) [0, 1, 2, 3, 4, 5, 6, 7] rfl ?_
        refine ER.sil rfl rfl rfl rfl (Sil.fieldAddr Try.underlying39 rfl inf36 rfl) ?_  -- 24.0: t106 := fieldAddr
        refine ER.sil rfl rfl rfl rfl (Sil.fieldAddr Try.underlying36 rfl inf33 rfl) ?_  -- 24.1: t107 := fieldAddr
        refine ER.ex rfl rfl rfl rfl (Exa.load flat33 rfl (((q2.ext h31)).cell hvv)) ?_  -- 24.2: t108 := load
        refine ER.sil rfl rfl rfl rfl (Sil.move rfl) ?_  -- 24.3: t109 := move
        refine ER.sil rfl rfl rfl rfl (Sil.indexR Try.underlying33 inf55 rfl rfl (hvl.isE (by omega)) (by omega) (by omega)) ?_  -- 24.4: t110 := indexAddr
        refine ER.ex rfl rfl rfl rfl (Exa.loadAgg (vs := (vrC inf.vars[k])) agg55 rfl ((hvl.at hkt).ext (hI.trans (hE.trans h31)))) ?_  -- 24.5: t111 := load
        refine ER.st rfl rfl rfl rfl (fun w32 h32 => Stp.alloc inf55 (fun w33 h33 s33 r33 => ⟨h33, ?_⟩))  -- 24.6: t14 := alloc
        refine ER.bar rfl rfl rfl rfl (fun w34 h34 => Stp.store (by kernel_rfl) rfl rfl (r33.ext h34) rfl rfl (fun w35 u35 r35 => ?_))  -- 24.7: tNone := store
        have e35 := ((h32.trans h33).trans h34).upd u35 h32.size
        refine ER.nil (fun w36 h36 => ?_)
        refine AQ.then ?_
        refine EC.seq ?_
        -- region 25  law.go:148
        refine EC.region (fun i => [1].getD i 0) [0] rfl ?_
        refine ER.sil rfl rfl rfl rfl (Sil.assign rfl) ?_  -- 25.0: t15 := assign
        refine ER.nil (fun w37 h37 => ?_)
        refine AQ.then ?_
        refine EC.seq ?_
        refine EC.seq ?_
        -- region 26  law.go:149
        refine EC.region (fun i => [1].getD i 0) [0] rfl ?_
        refine ER.sil rfl rfl rfl rfl (Sil.assign rfl) ?_  -- 26.0: t16 := assign
        refine ER.nil (fun w38 h38 => ?_)
        have hEK := (((((hE.trans h31).trans e35).trans h36).trans h37).trans h38)
        have k14 := (r35.ext ((h36.trans h37).trans h38))
        refine AQ.then ?_
        refine EC.block ?_
        refine EC.loop (σ := Nat) (fun i => [(1, .int .i64 p), (2, ptr w1.heap.size), (5, .bool true), (6, v8), (7, ptr w12.heap.size), (8, .bool (atB inf p)), (13, .int .i64 (k : Int)), (14, ptr w32.heap.size), (15, .bool (((varsS inf p).take i).any fun y => decide (y.name = inf.vars[k].name))), (16, .int .i64 (i : Int))]) (fun i wr => Ext w38 wr ∧ i ≤ (varsS inf p).length) (fun i => (varsS inf p).length - i) 0 [1, 2, 5, 6, 7, 8, 13, 14, 15, 16] rfl ?_ (fun i wr hF => ?_)
        · exact ⟨Ext.refl _, Nat.zero_le _⟩
        obtain ⟨hE4, hi4⟩ := hF
        have hE := hEK.trans hE4
        have q2 := k2.ext hE
        have q7 := k7.ext hE
        have q14 := k14.ext hE4
        refine EC.seq ?_
        refine EC.seq ?_
        -- region 27  law.go:149
        refine EC.region (fun i => [1, 1, 1, 1].getD i 0) [0, 1, 2, 3] rfl ?_
        refine ER.sil rfl rfl rfl rfl (Sil.move rfl) ?_  -- 27.0: t112 := move
        refine ER.sil rfl rfl rfl rfl (Sil.move rfl) ?_  -- 27.1: t113 := move
        refine ER.sil rfl rfl rfl rfl (Sil.lenR Try.underlying33 rfl ((lvI.ext hE).isS)) ?_  -- 27.2: t114 := call
        refine ER.sil rfl rfl rfl rfl (Sil.lss rfl rfl) ?_  -- 27.3: t115 := binOp
        refine ER.nil (fun w39 h39 => ?_)
        refine AQ.then ?_
        refine EC.cond rfl (fun hb7 => ?_) (fun hb7 => ?_)  -- cond 7: t115
        ·
          have hit : i < (varsS inf p).length := by have := of_decide_eq_true hb7; omega
          refine EC.skip ?_
          refine AQ.then ?_
          refine EC.seq ?_
          refine EC.block ?_
          -- region 29  law.go:150
          refine EC.draw (fun i => [1, 1, 1, 1, 1, 1, 0, 1, 0, 1, 1, 1].getD i 0) [0, 1, 2, 3, 4, 5, 6, 7, 8, 9, 10, 11] (by kernel_rfl) (by kernel_rfl) ?_
          refine ER.sil rfl rfl rfl rfl (Sil.move rfl) ?_  -- 29.0: t118 := move
          refine ER.sil rfl rfl rfl rfl (Sil.move rfl) ?_  -- 29.1: t119 := move
          refine ER.silG rfl rfl rfl rfl rfl rfl (fun hc => Sil.move rfl) ?_  -- 29.2: t120 := move
          refine ER.silG rfl rfl rfl rfl rfl rfl (fun hc => Sil.move rfl) ?_  -- 29.3: t121 := move
          refine ER.silG rfl rfl rfl rfl rfl rfl (fun hc => Sil.indexR Try.underlying33 inf55 (congrArg some (sel_eq hc _)) (congrArg some (sel_eq hc _)) ((lvI.ext (hE.trans h39)).isE (by omega)) (by omega) (by omega)) ?_  -- 29.4: t122 := indexAddr
          refine ER.silG rfl rfl rfl rfl rfl rfl (fun hc => Sil.fieldAddr Try.underlying55 rfl inf9 (congrArg some (sel_eq hc _))) ?_  -- 29.5: t123 := fieldAddr
          refine ER.exG rfl rfl rfl rfl rfl rfl (fun hc => Exa.load flat9 (congrArg some (sel_eq hc _)) (((lvI.ext (hE.trans h39)).at hit) 3 _ rfl)) ?_  -- 29.6: t124 := load
          refine ER.silG rfl rfl rfl rfl rfl rfl (fun hc => Sil.fieldAddr Try.underlying55 rfl inf9 rfl) ?_  -- 29.7: t125 := fieldAddr
          refine ER.exG rfl rfl rfl rfl rfl rfl (fun hc => Exa.load flat9 (congrArg some (sel_eq hc _)) ((q14.ext h39).cell rfl)) ?_  -- 29.8: t126 := load
          refine ER.silG rfl rfl rfl rfl rfl rfl (fun hc => Sil.seql (congrArg some (sel_eq hc _)) (congrArg some (sel_eq hc _))) ?_  -- 29.9: t127 := binOp
          refine ER.sil rfl rfl rfl rfl (Sil.pickOr rfl rfl rfl) ?_  -- 29.10: t128 := pick
          refine ER.sil rfl rfl rfl rfl (Sil.assign rfl) ?_  -- 29.11: t15 := assign
          refine ER.nil (fun w40 h40 => ?_)
          refine AQ.blockNormal ?_
          refine AQ.then ?_
          -- region 28  law.go:149
          refine EC.region (fun i => [1, 1, 1].getD i 0) [0, 1, 2] rfl ?_
          refine ER.sil rfl rfl rfl rfl (Sil.move rfl) ?_  -- 28.0: t116 := move
          refine ER.sil rfl rfl rfl rfl (Sil.add rfl rfl) ?_  -- 28.1: t117 := binOp
          refine ER.sil rfl rfl rfl rfl (Sil.assign rfl) ?_  -- 28.2: t16 := assign
          refine ER.nil (fun w41 h41 => ?_)
          exact AQ.round (i + 1) [1, 2, 5, 6, 7, 8, 13, 14, 15, 16] (by rw [← wrap_succ hit hlm, ← take_any _ hit]; rfl) ⟨hE4.trans ((h39.trans h40).trans h41), hit⟩ (by omega)
        ·
          have hge7 : i = (varsS inf p).length := by have := of_decide_eq_false hb7; omega
          refine EC.exit ?_
          refine AQ.thenExit ?_
          refine AQ.thenExit ?_
          refine AQ.blockHit ?_
          refine AQ.then ?_
          refine EC.seq ?_
          -- region 30  law.go:152
          refine EC.region (fun i => [1, 1, 1, 0, 1, 1, 1, 1, 1, 1, 0, 1, 1, 1, 1, 1, 1].getD i 0) [0, 1, 2, 3, 4, 5, 6, 7, 8, 9, 10, 11, 12, 13, 14, 15, 16] rfl ?_
          refine ER.sil rfl rfl rfl rfl (Sil.move rfl) ?_  -- 30.0: t129 := move
          refine ER.sil rfl rfl rfl rfl (Sil.move rfl) ?_  -- 30.1: t130 := move
          refine ER.silG rfl rfl rfl rfl rfl rfl (fun hc => Sil.fieldAddr Try.underlying55 rfl inf3 rfl) ?_  -- 30.2: t131 := fieldAddr
          refine ER.exG rfl rfl rfl rfl rfl rfl (fun hc => Exa.load flat3 (congrArg some (sel_eq hc _)) ((q14.ext h39).cell rfl)) ?_  -- 30.3: t132 := load
          refine ER.silG rfl rfl rfl rfl rfl rfl (fun hc => Sil.move rfl) ?_  -- 30.4: t133 := move
          refine ER.silG rfl rfl rfl rfl rfl rfl (fun hc => Sil.leq (congrArg some (sel_eq hc _)) (congrArg some (sel_eq hc _))) ?_  -- 30.5: t134 := binOp
          refine ER.sil rfl rfl rfl rfl (Sil.pickAnd rfl rfl rfl) ?_  -- 30.6: t135 := pick
          refine ER.sil rfl rfl rfl rfl (Sil.move rfl) ?_  -- 30.7: t136 := move
          refine ER.silG rfl rfl rfl rfl rfl rfl (fun hc => Sil.move rfl) ?_  -- 30.8: t137 := move
          refine ER.silG rfl rfl rfl rfl rfl rfl (fun hc => Sil.fieldAddr Try.underlying55 rfl inf3 rfl) ?_  -- 30.9: t138 := fieldAddr
          refine ER.exG rfl rfl rfl rfl rfl rfl (fun hc => Exa.load flat3 (congrArg some (sel_eq hc _)) ((q14.ext h39).cell rfl)) ?_  -- 30.10: t139 := load
          refine ER.silG rfl rfl rfl rfl rfl rfl (fun hc => Sil.lss (congrArg some (sel_eq hc _)) (congrArg some (sel_eq hc _))) ?_  -- 30.11: t140 := binOp
          refine ER.sil rfl rfl rfl rfl (Sil.pickAnd rfl rfl rfl) ?_  -- 30.12: t141 := pick
          refine ER.sil rfl rfl rfl rfl (Sil.move rfl) ?_  -- 30.13: t142 := move
          refine ER.silG rfl rfl rfl rfl rfl rfl (fun hc => Sil.move rfl) ?_  -- 30.14: t143 := move
          refine ER.silG rfl rfl rfl rfl rfl rfl (fun hc => Sil.not (congrArg some (sel_eq hc _))) ?_  -- 30.15: t144 := unOp
          refine ER.sil rfl rfl rfl rfl (Sil.pickAnd rfl rfl rfl) ?_  -- 30.16: t145 := pick
          refine ER.nil (fun w42 h42 => ?_)
          refine AQ.then ?_
          refine EC.cond rfl (fun hb8 => ?_) (fun hb8 => ?_)  -- cond 8: t145
          ·
            rw [Bool.and_eq_true, Bool.and_eq_true, Bool.and_eq_true] at hb8
            obtain ⟨⟨⟨x1, x2⟩, x3⟩, x4⟩ := hb8
            have hh := varsS_has (List.getElem_mem hkt) (of_decide_eq_true x2) (of_decide_eq_true x3) x1
            rw [hge7, List.take_length] at x4
            rw [hasN] at hh
            rw [hh] at x4
            cases x4
          ·
            refine EC.skip ?_
            refine AQ.blockNormal ?_
            refine AQ.then ?_
            -- region 23  law.go:146
            refine EC.region (fun i => [1, 1, 1].getD i 0) [0, 1, 2] rfl ?_
            refine ER.sil rfl rfl rfl rfl (Sil.move rfl) ?_  -- 23.0: t104 := move
            refine ER.sil rfl rfl rfl rfl (Sil.add rfl rfl) ?_  -- 23.1: t105 := binOp
            refine ER.sil rfl rfl rfl rfl (Sil.assign rfl) ?_  -- 23.2: t13 := assign
            refine ER.nil (fun w43 h43 => ?_)
            exact AQ.round (k + 1) [1, 2, 5, 6, 7, 8, 13] (by rw [← wrap_succ hkt hvm]; rfl) ⟨(((hE.trans h39).trans h42).trans h43), hkt⟩ (by omega)
      ·
        refine EC.exit ?_
        refine AQ.thenExit ?_
        refine AQ.thenExit ?_
        refine AQ.blockHit ?_
        refine AQ.then ?_
        refine EC.seq ?_
        -- region 32  law.go:156
        refine EC.region (fun i => [1].getD i 0) [0] rfl ?_
        refine ER.sil rfl rfl rfl rfl (Sil.assign rfl) ?_  -- 32.0: t17 := assign
        refine ER.nil (fun w44 h44 => ?_)
        refine AQ.then ?_
        refine EC.seq ?_
        refine EC.seq ?_
        -- region 33  law.go:157
        refine EC.region (fun i => [1].getD i 0) [0] rfl ?_
        refine ER.sil rfl rfl rfl rfl (Sil.assign rfl) ?_  -- 33.0: t18 := assign
        refine ER.nil (fun w45 h45 => ?_)
        refine AQ.then ?_
        refine EC.block ?_
        refine EC.loop (σ := Nat) (fun k => [(1, .int .i64 p), (2, ptr w1.heap.size), (5, .bool true), (6, v8), (7, ptr w12.heap.size), (8, .bool (atB inf p)), (17, .int .i64 (((inf.inlines.take k).filter (ilP p)).length : Int)), (18, .int .i64 (k : Int))]) (fun k wr => Ext w17 wr ∧ k ≤ inf.inlines.length) (fun k => inf.inlines.length - k) 0 [1, 2, 5, 6, 7, 8, 17, 18] rfl ?_ (fun k wr hF => ?_)
        · exact ⟨(((hE.trans h31).trans h44).trans h45), Nat.zero_le _⟩
        obtain ⟨hE, hk⟩ := hF
        have q2 := k2.ext hE
        have q7 := k7.ext hE
        refine EC.seq ?_
        refine EC.seq ?_
        -- region 34  law.go:157
        refine EC.region (fun i => [1, 1, 1, 0, 1, 1].getD i 0) [0, 1, 2, 3, 4, 5] rfl ?_
        refine ER.sil rfl rfl rfl rfl (Sil.move rfl) ?_  -- 34.0: t146 := move
        refine ER.sil rfl rfl rfl rfl (Sil.fieldAddr Try.underlying39 rfl inf36 rfl) ?_  -- 34.1: t147 := fieldAddr
        refine ER.sil rfl rfl rfl rfl (Sil.fieldAddr Try.underlying36 rfl inf32 rfl) ?_  -- 34.2: t148 := fieldAddr
        refine ER.ex rfl rfl rfl rfl (Exa.load flat32 rfl ((q2).cell hiv)) ?_  -- 34.3: t149 := load
        refine ER.sil rfl rfl rfl rfl (Sil.lenR Try.underlying32 rfl (hil.isS)) ?_  -- 34.4: t150 := call
        refine ER.sil rfl rfl rfl rfl (Sil.lss rfl rfl) ?_  -- 34.5: t151 := binOp
        refine ER.nil (fun w46 h46 => ?_)
        refine AQ.then ?_
        refine EC.cond rfl (fun hb9 => ?_) (fun hb9 => ?_)  -- cond 9: t151
        ·
          have hkt : k < inf.inlines.length := by have := of_decide_eq_true hb9; omega
          refine EC.skip ?_
          refine AQ.then ?_
          refine EC.seq ?_
          refine EC.block ?_
          refine EC.seq ?_
          -- region 36  law.go:158
          refine EC.region (fun i => [1, 1, 0, 1, 1, 0, 2, 3].getD i 0) [0, 1, 2, 3, 4, 5, 6, 7] rfl ?_
          refine ER.sil rfl rfl rfl rfl (Sil.fieldAddr Try.underlying39 rfl inf36 rfl) ?_  -- 36.0: t154 := fieldAddr
          refine ER.sil rfl rfl rfl rfl (Sil.fieldAddr Try.underlying36 rfl inf32 rfl) ?_  -- 36.1: t155 := fieldAddr
          refine ER.ex rfl rfl rfl rfl (Exa.load flat32 rfl (((q2.ext h46)).cell hiv)) ?_  -- 36.2: t156 := load
          refine ER.sil rfl rfl rfl rfl (Sil.move rfl) ?_  -- 36.3: t157 := move
          refine ER.sil rfl rfl rfl rfl (Sil.indexR Try.underlying32 inf57 rfl rfl (hil.isE (by omega)) (by omega) (by omega)) ?_  -- 36.4: t158 := indexAddr
          refine ER.ex rfl rfl rfl rfl (Exa.loadAgg (vs := (ilC inf.inlines[k])) agg57 rfl ((hil.at hkt).ext (hI.trans (hE.trans h46)))) ?_  -- 36.5: t159 := load
          refine ER.st rfl rfl rfl rfl (fun w47 h47 => Stp.alloc inf57 (fun w48 h48 s48 r48 => ⟨h48, ?_⟩))  -- 36.6: t19 := alloc
          refine ER.bar rfl rfl rfl rfl (fun w49 h49 => Stp.store (by kernel_rfl) rfl rfl (r48.ext h49) rfl rfl (fun w50 u50 r50 => ?_))  -- 36.7: tNone := store
          have e50 := ((h47.trans h48).trans h49).upd u50 h47.size
          refine ER.nil (fun w51 h51 => ?_)
          refine AQ.then ?_
          refine EC.seq ?_
          -- region 37  law.go:159
          refine EC.region (fun i => [1, 0, 1, 1, 1, 1, 1, 0, 1, 1].getD i 0) [0, 1, 2, 3, 4, 5, 6, 7, 8, 9] rfl ?_
          refine ER.sil rfl rfl rfl rfl (Sil.fieldAddr Try.underlying57 rfl inf3 rfl) ?_  -- 37.0: t160 := fieldAddr
          refine ER.ex rfl rfl rfl rfl (Exa.load flat3 rfl ((r50.ext h51).cell rfl)) ?_  -- 37.1: t161 := load
          refine ER.sil rfl rfl rfl rfl (Sil.move rfl) ?_  -- 37.2: t162 := move
          refine ER.sil rfl rfl rfl rfl (Sil.leq rfl rfl) ?_  -- 37.3: t163 := binOp
          refine ER.sil rfl rfl rfl rfl (Sil.move rfl) ?_  -- 37.4: t164 := move
          refine ER.silG rfl rfl rfl rfl rfl rfl (fun hc => Sil.move rfl) ?_  -- 37.5: t165 := move
          refine ER.silG rfl rfl rfl rfl rfl rfl (fun hc => Sil.fieldAddr Try.underlying57 rfl inf3 rfl) ?_  -- 37.6: t166 := fieldAddr
          refine ER.exG rfl rfl rfl rfl rfl rfl (fun hc => Exa.load flat3 (congrArg some (sel_eq hc _)) ((r50.ext h51).cell rfl)) ?_  -- 37.7: t167 := load
          refine ER.silG rfl rfl rfl rfl rfl rfl (fun hc => Sil.lss (congrArg some (sel_eq hc _)) (congrArg some (sel_eq hc _))) ?_  -- 37.8: t168 := binOp
          refine ER.sil rfl rfl rfl rfl (Sil.pickAnd rfl rfl rfl) ?_  -- 37.9: t169 := pick
          refine ER.nil (fun w52 h52 => ?_)
          refine AQ.then ?_
          refine EC.cond rfl (fun hb10 => ?_) (fun hb10 => ?_)  -- cond 10: t169
          ·
            have hp : ilP p inf.inlines[k] = true := hb10
            -- region 38  law.go:160
            refine EC.region (fun i => [1, 1, 1].getD i 0) [0, 1, 2] rfl ?_
            refine ER.sil rfl rfl rfl rfl (Sil.move rfl) ?_  -- 38.0: t170 := move
            refine ER.sil rfl rfl rfl rfl (Sil.add rfl rfl) ?_  -- 38.1: t171 := binOp
            refine ER.sil rfl rfl rfl rfl (Sil.assign rfl) ?_  -- 38.2: t17 := assign
            refine ER.nil (fun w53 h53 => ?_)
            refine AQ.blockNormal ?_
            refine AQ.then ?_
            -- region 35  law.go:157
            refine EC.region (fun i => [1, 1, 1].getD i 0) [0, 1, 2] rfl ?_
            refine ER.sil rfl rfl rfl rfl (Sil.move rfl) ?_  -- 35.0: t152 := move
            refine ER.sil rfl rfl rfl rfl (Sil.add rfl rfl) ?_  -- 35.1: t153 := binOp
            refine ER.sil rfl rfl rfl rfl (Sil.assign rfl) ?_  -- 35.2: t18 := assign
            refine ER.nil (fun w54 h54 => ?_)
            exact AQ.round (k + 1) [1, 2, 5, 6, 7, 8, 17, 18] (by rw [← wrap_succ hkt hil.max, filt_yes hkt hp, List.length_append, List.length_singleton, ← wrap_succ (k := ((inf.inlines.take k).filter (ilP p)).length) (n := 61) (by have := List.length_filter_le (ilP p) (inf.inlines.take k); rw [List.length_take] at this; omega) (by decide)]; rfl) ⟨((((((hE.trans h46).trans e50).trans h51).trans h52).trans h53).trans h54), hkt⟩ (by omega)
          ·
            have hp : ilP p inf.inlines[k] = false := hb10
            refine EC.skip ?_
            refine AQ.blockNormal ?_
            refine AQ.then ?_
            -- region 35  law.go:157
            refine EC.region (fun i => [1, 1, 1].getD i 0) [0, 1, 2] rfl ?_
            refine ER.sil rfl rfl rfl rfl (Sil.move rfl) ?_  -- 35.0: t152 := move
            refine ER.sil rfl rfl rfl rfl (Sil.add rfl rfl) ?_  -- 35.1: t153 := binOp
            refine ER.sil rfl rfl rfl rfl (Sil.assign rfl) ?_  -- 35.2: t18 := assign
            refine ER.nil (fun w55 h55 => ?_)
            exact AQ.round (k + 1) [1, 2, 5, 6, 7, 8, 17, 18] (by rw [← wrap_succ hkt hil.max, filt_no hkt hp]; rfl) ⟨(((((hE.trans h46).trans e50).trans h51).trans h52).trans h55), hkt⟩ (by omega)
        ·
          have hge9 : k = inf.inlines.length := by have := of_decide_eq_false hb9; omega
          refine EC.exit ?_
          refine AQ.thenExit ?_
          refine AQ.thenExit ?_
          refine AQ.blockHit ?_
          refine AQ.then ?_
          refine EC.seq ?_
          -- region 39  law.go:163
          refine EC.region (fun i => [1, 1, 1, 1, 1, 0, 1, 1, 1, 1, 1, 1, 1, 1, 1, 1, 1, 1, 1, 1, 0, 1, 1, 1, 1, 1, 1].getD i 0) [0, 1, 2, 3, 4, 5, 6, 7, 8, 9, 10, 11, 12, 13, 14, 15, 16, 17, 18, 19, 20, 21, 22, 23, 24, 25, 26] rfl ?_
          refine ER.sil rfl rfl rfl rfl (Sil.move rfl) ?_  -- 39.0: t172 := move
          refine ER.sil rfl rfl rfl rfl (Sil.move rfl) ?_  -- 39.1: t173 := move
          refine ER.silD rfl rfl rfl rfl (rfl) rfl rfl (Sil.move rfl) ?_  -- 39.2: t174 := move
          refine ER.silD rfl rfl rfl rfl (rfl) rfl rfl (Sil.move rfl) ?_  -- 39.3: t175 := move
          refine ER.silG rfl rfl rfl rfl rfl rfl (fun hc => Sil.fieldAddr Try.underlying43 rfl inf32 rfl) ?_  -- 39.4: t176 := fieldAddr
          refine ER.exG rfl rfl rfl rfl rfl rfl (fun hc => Exa.load flat32 (congrArg some (sel_eq hc _)) ((q7.ext h46).cell rfl)) ?_  -- 39.5: t177 := load
          refine ER.silG rfl rfl rfl rfl rfl rfl (fun hc => Sil.len Try.underlying32 (congrArg some (sel_eq hc _))) ?_  -- 39.6: t178 := call
          refine ER.silG rfl rfl rfl rfl rfl rfl (fun hc => Sil.move rfl) ?_  -- 39.7: t179 := move
          refine ER.silG rfl rfl rfl rfl rfl rfl (fun hc => Sil.eql (congrArg some (sel_eq hc _)) (congrArg some (sel_eq hc _))) ?_  -- 39.8: t180 := binOp
          refine ER.silD rfl rfl rfl rfl (rfl) rfl rfl (Sil.pickAnd rfl rfl rfl) ?_  -- 39.9: t181 := pick
          refine ER.silD rfl rfl rfl rfl (rfl) rfl rfl (Sil.move rfl) ?_  -- 39.10: t182 := move
          refine ER.silG rfl rfl rfl rfl rfl rfl (fun hc => Sil.move rfl) ?_  -- 39.11: t183 := move
          refine ER.silG rfl rfl rfl rfl rfl rfl (fun hc => Sil.not (congrArg some (sel_eq hc _))) ?_  -- 39.12: t184 := unOp
          refine ER.silG rfl rfl rfl rfl rfl rfl (fun hc => Sil.move (congrArg some (sel_eq hc _))) ?_  -- 39.13: t185 := move
          refine ER.silGG rfl rfl rfl rfl rfl rfl (fun hp hc => Sil.move rfl) ?_  -- 39.14: t186 := move
          refine ER.silGG rfl rfl rfl rfl rfl rfl (fun hp hc => Sil.lenR Try.underlying33 (congrArg some (sel_2 hp hc _)) ((lvI.ext (hE.trans h46)).isS)) ?_  -- 39.15: t187 := call
          refine ER.silGG rfl rfl rfl rfl rfl rfl (fun hp hc => Sil.eql (congrArg some (sel_2 hp hc _)) rfl) ?_  -- 39.16: t188 := binOp
          refine ER.silG rfl rfl rfl rfl rfl rfl (fun hc => Sil.pickAnd (congrArg some (sel_eq hc _)) (congrArg some (sel_in hc _ _)) rfl) ?_  -- 39.17: t189 := pick
          refine ER.silG rfl rfl rfl rfl rfl rfl (fun hc => Sil.move (congrArg some (sel_eq hc _))) ?_  -- 39.18: t190 := move
          refine ER.silGG rfl rfl rfl rfl rfl rfl (fun hp hc => Sil.fieldAddr Try.underlying43 rfl inf32 rfl) ?_  -- 39.19: t191 := fieldAddr
          refine ER.exGG rfl rfl rfl rfl rfl rfl (fun hp hc => Exa.load flat32 (congrArg some (sel_2 hp hc _)) ((q7.ext h46).cell rfl)) ?_  -- 39.20: t192 := load
          refine ER.silGG rfl rfl rfl rfl rfl rfl (fun hp hc => Sil.len Try.underlying32 (congrArg some (sel_2 hp hc _))) ?_  -- 39.21: t193 := call
          refine ER.silGG rfl rfl rfl rfl rfl rfl (fun hp hc => Sil.eql (congrArg some (sel_2 hp hc _)) rfl) ?_  -- 39.22: t194 := binOp
          refine ER.silG rfl rfl rfl rfl rfl rfl (fun hc => Sil.pickAnd (congrArg some (sel_eq hc _)) (congrArg some (sel_in hc _ _)) rfl) ?_  -- 39.23: t195 := pick
          refine ER.silD rfl rfl rfl rfl (rfl) rfl rfl (Sil.pickOr rfl rfl rfl) ?_  -- 39.24: t196 := pick
          refine ER.sil rfl rfl rfl rfl (Sil.pick rfl rfl rfl) ?_  -- 39.25: t197 := pick
          refine ER.sil rfl rfl rfl rfl (Sil.assign rfl) ?_  -- 39.26: t4 := assign
          refine ER.nil (fun w56 h56 => ?_)
          refine AQ.then ?_
          refine EC.ret ?_
          refine AQ.ret1 Try.results4 rfl ?_
          subst hge9
          rw [List.take_length]
          refine ⟨?_, hI.trans ((hE.trans h46).trans h56)⟩
          cases hb : atB inf p with
          | true => simp [atS_inls hb]
          | false => simp [varsS_no hb, atS_inls0 hb]

end Go.Proofs.Ytcgapppamhffjaa
