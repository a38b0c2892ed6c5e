/- Locate: the reference's Vars. -/
import Derived.Test.YtcgapppamhffjaaW14
namespace Go.Proofs.Ytcgapppamhffjaa
open Go.RowKit Go.XK Go.LocateLaw

-- linchpin/linchpinref42.Vars: parameters ['api.Image', 'int'] (free 0), results [('ResultVar.tmp', 4)], 71 slots
set_option maxRecDepth 100000 in
theorem varsr_any (cs : List Value) (inf : Inf) (p : Int) (w : World) (hi : InfC w cs inf) (hm8 : inf.vars.length ≤ 60) :
    Calls Try.prog 14 [.agg cs.toArray, .int .i64 p].toArray w fun e w' => ∃ v', e = .returned v' ∧ Ext w w' ∧ LR 6 vrC w' v' (varsS inf p) := by
  obtain ⟨vv, hvv, hvl⟩ := hi.2.2.2.2.2.1
  have hcl := hi.len
  have hvm := hvl.max
  refine calls_of Try.func14 rfl Try.ntmps14 rfl ?_
  refine EC.seq ?_
  -- region 0  ref.go:48
  refine EC.region (fun i => [2, 1].getD i 0) [0, 1] rfl ?_
  refine ER.st rfl rfl rfl rfl (fun w1 h1 => Stp.box rfl (fun w2 h2 s2 r2 => ⟨h2, ?_⟩))  -- 0.0: t2 := box
  refine ER.sil rfl rfl rfl rfl (Sil.assign rfl) ?_  -- 0.1: t4 := assign
  refine ER.nil (fun w3 h3 => ?_)
  refine AQ.then ?_
  refine EC.seq ?_
  -- region 1  ref.go:49
  refine EC.region (fun i => [0, 1, 0, 1, 1, 1, 2, 3, 1].getD i 0) [0, 1, 2, 3, 4, 5, 6, 7, 8] rfl ?_
  refine ER.ex rfl rfl rfl rfl (Exa.loadAgg (vs := cs) (by rw [hi.len]; exact agg39) rfl ((r2.ext h3).at)) ?_  -- 1.0: t13 := load
  refine ER.sil rfl rfl rfl rfl (Sil.move rfl) ?_  -- 1.1: t14 := move
  refine ER.ex rfl rfl rfl rfl (Exa.call fok31 rfl rfl (fun wx hx => (noder_any cs inf p wx (hi.ext (((h1.trans h2).trans h3).trans hx))))) ?_  -- 1.2: t15 := call
  refine ER.sil rfl rfl rfl rfl (Sil.move rfl) ?_  -- 1.3: t12 := move
  refine ER.sil rfl rfl rfl rfl (Sil.extract rfl rfl) ?_  -- 1.4: t16 := extract
  refine ER.sil rfl rfl rfl rfl (Sil.extract rfl rfl) ?_  -- 1.5: t17 := extract
  refine ER.st rfl rfl rfl rfl (fun w4 h4 => Stp.alloc inf61 (fun w5 h5 s5 r5 => ⟨h5, ?_⟩))  -- 1.6: t5 := alloc
  refine ER.bar rfl rfl rfl rfl (fun w6 h6 => Stp.store (by kernel_rfl) rfl rfl (r5.ext h6) rfl rfl (fun w7 u7 r7 => ?_))  -- 1.7: tNone := store
  have e7 := ((h4.trans h5).trans h6).upd u7 h4.size
  refine ER.sil rfl rfl rfl rfl (Sil.assign rfl) ?_  -- 1.8: t6 := assign
  refine ER.nil (fun w8 h8 => ?_)
  refine AQ.then ?_
  refine EC.seq ?_
  -- region 2  ref.go:50
  refine EC.region (fun i => [1].getD i 0) [0] rfl ?_
  refine ER.sil rfl rfl rfl rfl (Sil.assign rfl) ?_  -- 2.0: t7 := assign
  refine ER.nil (fun w9 h9 => ?_)
  refine AQ.then ?_
  refine EC.seq ?_
  refine EC.seq ?_
  -- region 3  ref.go:51
  refine EC.region (fun i => [1].getD i 0) [0] rfl ?_
  refine ER.sil rfl rfl rfl rfl (Sil.assign rfl) ?_  -- 3.0: t8 := assign
  refine ER.nil (fun w10 h10 => ?_)
  refine AQ.then ?_
  refine EC.block ?_
  refine EC.loop (σ := VarS) (fun q => [(1, .int .i64 p), (2, ptr w1.heap.size), (6, .bool (nodeO inf p).isSome), (7, q.v), (8, .int .i64 (q.k : Int))]) (fun q wr => Ext w wr ∧ Row wr w1.heap.size 39 cs ∧ LR 6 vrC wr q.v (varTo inf p q.k) ∧ q.k ≤ inf.vars.length ∧ (0 < q.k → (nodeO inf p).isSome = true)) (fun q => inf.vars.length - q.k) ⟨0, .slice none 0 0⟩ [1, 2, 6, 7, 8] rfl ?_ (fun q wr hF => ?_)
  · exact ⟨((((((h1.trans h2).trans h3).trans e7).trans h8).trans h9).trans h10), (r2.ext ((((h3.trans e7).trans h8).trans h9).trans h10)), LR.nil _, Nat.zero_le _, fun h => absurd h (Nat.lt_irrefl 0)⟩
  obtain ⟨hE, q2, hl, hk, hno⟩ := hF
  have hvn := varTo_len inf p q.k
  refine EC.seq ?_
  refine EC.seq ?_
  -- region 4  ref.go:51
  refine EC.region (fun i => [1, 1, 1, 0, 1, 1, 1, 1, 1].getD i 0) [0, 1, 2, 3, 4, 5, 6, 7, 8] rfl ?_
  refine ER.sil rfl rfl rfl rfl (Sil.move rfl) ?_  -- 4.0: t18 := move
  refine ER.sil rfl rfl rfl rfl (Sil.fieldAddr Try.underlying39 rfl inf36 rfl) ?_  -- 4.1: t19 := fieldAddr
  refine ER.sil rfl rfl rfl rfl (Sil.fieldAddr Try.underlying36 rfl inf33 rfl) ?_  -- 4.2: t20 := fieldAddr
  refine ER.ex rfl rfl rfl rfl (Exa.load flat33 rfl ((q2).cell hvv)) ?_  -- 4.3: t21 := load
  refine ER.sil rfl rfl rfl rfl (Sil.lenR Try.underlying33 rfl (hvl.isS)) ?_  -- 4.4: t22 := call
  refine ER.sil rfl rfl rfl rfl (Sil.lss rfl rfl) ?_  -- 4.5: t23 := binOp
  refine ER.sil rfl rfl rfl rfl (Sil.move rfl) ?_  -- 4.6: t24 := move
  refine ER.silG rfl rfl rfl rfl rfl rfl (fun hc => Sil.move rfl) ?_  -- 4.7: t25 := move
  refine ER.sil rfl rfl rfl rfl (Sil.pickAnd rfl rfl rfl) ?_  -- 4.8: t26 := pick
  refine ER.nil (fun w11 h11 => ?_)
  refine AQ.then ?_
  refine EC.cond rfl (fun hb0 => ?_) (fun hb0 => ?_)  -- cond 0: t26
  ·
    rw [Bool.and_eq_true] at hb0
    have hlt : q.k < inf.vars.length := by have := of_decide_eq_true hb0.1; omega
    have hnb := hb0.2
    refine EC.skip ?_
    refine AQ.then ?_
    refine EC.seq ?_
    refine EC.block ?_
    refine EC.seq ?_
    -- region 6  ref.go:52
    refine EC.region (fun i => [1, 1, 0, 1, 1, 0, 2, 3].getD i 0) [0, 1, 2, 3, 4, 5, 6, 7] rfl ?_
    refine ER.sil rfl rfl rfl rfl (Sil.fieldAddr Try.underlying39 rfl inf36 rfl) ?_  -- 6.0: t29 := fieldAddr
    refine ER.sil rfl rfl rfl rfl (Sil.fieldAddr Try.underlying36 rfl inf33 rfl) ?_  -- 6.1: t30 := fieldAddr
    refine ER.ex rfl rfl rfl rfl (Exa.load flat33 rfl (((q2.ext h11)).cell hvv)) ?_  -- 6.2: t31 := load
    refine ER.sil rfl rfl rfl rfl (Sil.move rfl) ?_  -- 6.3: t32 := move
    refine ER.sil rfl rfl rfl rfl (Sil.indexR Try.underlying33 inf55 rfl rfl (hvl.isE (by omega)) (by omega) (by omega)) ?_  -- 6.4: t33 := indexAddr
    refine ER.ex rfl rfl rfl rfl (Exa.loadAgg (vs := (vrC inf.vars[q.k])) agg55 rfl ((hvl.at hlt).ext (hE.trans h11))) ?_  -- 6.5: t34 := load
    refine ER.st rfl rfl rfl rfl (fun w12 h12 => Stp.alloc inf55 (fun w13 h13 s13 r13 => ⟨h13, ?_⟩))  -- 6.6: t9 := alloc
    refine ER.bar rfl rfl rfl rfl (fun w14 h14 => Stp.store (by kernel_rfl) rfl rfl (r13.ext h14) rfl rfl (fun w15 u15 r15 => ?_))  -- 6.7: tNone := store
    have e15 := ((h12.trans h13).trans h14).upd u15 h12.size
    refine ER.nil (fun w16 h16 => ?_)
    refine AQ.then ?_
    refine EC.seq ?_
    refine EC.seq ?_
    -- region 7  ref.go:53
    refine EC.region (fun i => [1, 0, 1, 1, 1, 1, 1, 0, 1, 1].getD i 0) [0, 1, 2, 3, 4, 5, 6, 7, 8, 9] rfl ?_
    refine ER.sil rfl rfl rfl rfl (Sil.fieldAddr Try.underlying55 rfl inf3 rfl) ?_  -- 7.0: t35 := fieldAddr
    refine ER.ex rfl rfl rfl rfl (Exa.load flat3 rfl ((r15.ext h16).cell rfl)) ?_  -- 7.1: t36 := load
    refine ER.sil rfl rfl rfl rfl (Sil.move rfl) ?_  -- 7.2: t37 := move
    refine ER.sil rfl rfl rfl rfl (Sil.gtr rfl rfl) ?_  -- 7.3: t38 := binOp
    refine ER.sil rfl rfl rfl rfl (Sil.move rfl) ?_  -- 7.4: t39 := move
    refine ER.silG rfl rfl rfl rfl rfl rfl (fun hc => Sil.move rfl) ?_  -- 7.5: t40 := move
    refine ER.silG rfl rfl rfl rfl rfl rfl (fun hc => Sil.fieldAddr Try.underlying55 rfl inf3 rfl) ?_  -- 7.6: t41 := fieldAddr
    refine ER.exG rfl rfl rfl rfl rfl rfl (fun hc => Exa.load flat3 (congrArg some (sel_eq hc _)) ((r15.ext h16).cell rfl)) ?_  -- 7.7: t42 := load
    refine ER.silG rfl rfl rfl rfl rfl rfl (fun hc => Sil.geq (congrArg some (sel_eq hc _)) (congrArg some (sel_eq hc _))) ?_  -- 7.8: t43 := binOp
    refine ER.sil rfl rfl rfl rfl (Sil.pickOr rfl rfl rfl) ?_  -- 7.9: t44 := pick
    refine ER.nil (fun w17 h17 => ?_)
    refine AQ.then ?_
    refine EC.cond rfl (fun hb1 => ?_) (fun hb1 => ?_)  -- cond 1: t44
    ·
      have hp : vrP p inf.vars[q.k] = false := by
        rw [Bool.or_eq_true, decide_eq_true_eq, decide_eq_true_eq] at hb1
        rw [vrP, Bool.and_eq_false_iff, decide_eq_false_iff_not, decide_eq_false_iff_not]
        omega
      refine EC.exit ?_
      refine AQ.thenExit ?_
      refine AQ.blockHit ?_
      refine AQ.then ?_
      -- region 5  ref.go:51
      refine EC.region (fun i => [1, 1, 1].getD i 0) [0, 1, 2] rfl ?_
      refine ER.sil rfl rfl rfl rfl (Sil.move rfl) ?_  -- 5.0: t27 := move
      refine ER.sil rfl rfl rfl rfl (Sil.add rfl rfl) ?_  -- 5.1: t28 := binOp
      refine ER.sil rfl rfl rfl rfl (Sil.assign rfl) ?_  -- 5.2: t8 := assign
      refine ER.nil (fun w18 h18 => ?_)
      refine AQ.round ⟨q.k + 1, q.v⟩ [1, 2, 6, 7, 8] (by rw [← wrap_succ hlt hvm]; rfl) ⟨(((((hE.trans h11).trans e15).trans h16).trans h17).trans h18), (q2.ext ((((h11.trans e15).trans h16).trans h17).trans h18)), ?_, hlt, fun _ => hnb⟩ (by simp only; omega)
      simp only [varTo_no hlt hp]
      exact (hl.ext ((((h11.trans e15).trans h16).trans h17).trans h18))
    ·
      have hp : vrP p inf.vars[q.k] = true := by
        rw [Bool.or_eq_false_iff, decide_eq_false_iff_not, decide_eq_false_iff_not] at hb1
        rw [vrP, Bool.and_eq_true, decide_eq_true_eq, decide_eq_true_eq]
        omega
      refine EC.skip ?_
      refine AQ.then ?_
      refine EC.seq ?_
      -- region 8  ref.go:56
      refine EC.region (fun i => [1].getD i 0) [0] rfl ?_
      refine ER.sil rfl rfl rfl rfl (Sil.assign rfl) ?_  -- 8.0: t10 := assign
      refine ER.nil (fun w19 h19 => ?_)
      refine AQ.then ?_
      refine EC.seq ?_
      refine EC.seq ?_
      -- region 9  ref.go:57
      refine EC.region (fun i => [1].getD i 0) [0] rfl ?_
      refine ER.sil rfl rfl rfl rfl (Sil.assign rfl) ?_  -- 9.0: t11 := assign
      refine ER.nil (fun w20 h20 => ?_)
      have hI := ((((((hE.trans h11).trans e15).trans h16).trans h17).trans h19).trans h20)
      have hlI := (hl.ext (((((h11.trans e15).trans h16).trans h17).trans h19).trans h20))
      have kI2 := (q2.ext (((((h11.trans e15).trans h16).trans h17).trans h19).trans h20))
      have kI9 := (r15.ext (((h16.trans h17).trans h19).trans h20))
      have lI2 := kI2.lt
      have lI9 := kI9.lt
      refine AQ.then ?_
      refine EC.block ?_
      refine EC.loop (σ := VarS) (fun r => [(1, .int .i64 p), (2, ptr w1.heap.size), (6, .bool (nodeO inf p).isSome), (7, q.v), (8, .int .i64 (q.k : Int)), (9, ptr w12.heap.size), (10, r.v), (11, .int .i64 (r.k : Int))]) (fun r ws => Ext w20 ws ∧ r.k ≤ (varTo inf p q.k).length ∧ ws.ownsRow w20.heap.size 55 6 r.v (((varTo inf p q.k).take r.k).filter (other inf.vars[q.k].name)).length ((((varTo inf p q.k).take r.k).filter (other inf.vars[q.k].name)).map vrC).flatten) (fun r => (varTo inf p q.k).length - r.k) ⟨0, .slice none 0 0⟩ [1, 2, 6, 7, 8, 9, 10, 11] rfl ?_ (fun r ws hF => ?_)
      · exact ⟨Ext.refl _, Nat.zero_le _, World.ownsRow_nil _ _ _ _⟩
      obtain ⟨hE, hj, out⟩ := hF
      have q2 := kI2.ext hE
      have q9 := kI9.ext hE
      have hfl : (((varTo inf p q.k).take r.k).filter (other inf.vars[q.k].name)).length ≤ (varTo inf p q.k).length := Nat.le_trans (List.length_filter_le ..) (by rw [List.length_take]; omega)
      refine EC.seq ?_
      refine EC.seq ?_
      -- region 10  ref.go:57
      refine EC.region (fun i => [1, 1, 1, 1].getD i 0) [0, 1, 2, 3] rfl ?_
      refine ER.sil rfl rfl rfl rfl (Sil.move rfl) ?_  -- 10.0: t45 := move
      refine ER.sil rfl rfl rfl rfl (Sil.move rfl) ?_  -- 10.1: t46 := move
      refine ER.sil rfl rfl rfl rfl (Sil.lenR Try.underlying33 rfl ((hlI.ext hE).isS)) ?_  -- 10.2: t47 := call
      refine ER.sil rfl rfl rfl rfl (Sil.lss rfl rfl) ?_  -- 10.3: t48 := binOp
      refine ER.nil (fun w21 h21 => ?_)
      refine AQ.then ?_
      refine EC.cond rfl (fun hb2 => ?_) (fun hb2 => ?_)  -- cond 2: t48
      ·
        have hjt : r.k < (varTo inf p q.k).length := by have := of_decide_eq_true hb2; omega
        refine EC.skip ?_
        refine AQ.then ?_
        refine EC.seq ?_
        refine EC.block ?_
        refine EC.seq ?_
        -- region 12  ref.go:58
        refine EC.draw (fun i => [1, 1, 1, 1, 0, 1, 0, 1].getD i 0) [0, 1, 2, 3, 4, 5, 6, 7] (by kernel_rfl) (by kernel_rfl) ?_
        refine ER.sil rfl rfl rfl rfl (Sil.move rfl) ?_  -- 12.0: t51 := move
        refine ER.sil rfl rfl rfl rfl (Sil.move rfl) ?_  -- 12.1: t52 := move
        refine ER.sil rfl rfl rfl rfl (Sil.indexR Try.underlying33 inf55 rfl rfl ((hlI.ext (hE.trans h21)).isE (by omega)) (by omega) (by omega)) ?_  -- 12.2: t53 := indexAddr
        refine ER.sil rfl rfl rfl rfl (Sil.fieldAddr Try.underlying55 rfl inf9 rfl) ?_  -- 12.3: t54 := fieldAddr
        refine ER.ex rfl rfl rfl rfl (Exa.load flat9 rfl (((hlI.ext (hE.trans h21)).at hjt) 3 _ rfl)) ?_  -- 12.4: t55 := load
        refine ER.sil rfl rfl rfl rfl (Sil.fieldAddr Try.underlying55 rfl inf9 rfl) ?_  -- 12.5: t56 := fieldAddr
        refine ER.ex rfl rfl rfl rfl (Exa.load flat9 rfl ((q9.ext h21).cell rfl)) ?_  -- 12.6: t57 := load
        refine ER.sil rfl rfl rfl rfl (Sil.sneq rfl rfl) ?_  -- 12.7: t58 := binOp
        refine ER.nil (fun w22 h22 => ?_)
        refine AQ.then ?_
        refine EC.cond rfl (fun hb3 => ?_) (fun hb3 => ?_)  -- cond 3: t58
        ·
          have ho : other inf.vars[q.k].name (varTo inf p q.k)[r.k] = true := by simpa [other, vrC] using hb3
          -- region 13  ref.go:59
          refine EC.region (fun i => [1, 1, 1, 1, 0, 2, 3, 1].getD i 0) [0, 1, 2, 3, 4, 5, 6, 7] rfl ?_
          refine ER.sil rfl rfl rfl rfl (Sil.move rfl) ?_  -- 13.0: t59 := move
          refine ER.sil rfl rfl rfl rfl (Sil.move rfl) ?_  -- 13.1: t60 := move
          refine ER.sil rfl rfl rfl rfl (Sil.move rfl) ?_  -- 13.2: t61 := move
          refine ER.sil rfl rfl rfl rfl (Sil.indexR Try.underlying33 inf55 rfl rfl ((hlI.ext ((hE.trans h21).trans h22)).isE (by omega)) (by omega) (by omega)) ?_  -- 13.3: t62 := indexAddr
          refine ER.ex rfl rfl rfl rfl (Exa.loadAgg (vs := (vrC (varTo inf p q.k)[r.k])) agg55 rfl ((hlI.ext ((hE.trans h21).trans h22)).at hjt)) ?_  -- 13.4: t63 := load
          refine ER.st rfl rfl rfl rfl (fun w23 h23 => Stp.buildAll [_] Try.underlying33 inf55 rfl rfl rfl rfl rfl rfl (fun w24 h24 s24 r24 => ⟨h24, ?_⟩))  -- 13.5: t64 := buildSlice
          refine ER.bar rfl rfl rfl rfl (fun w25 h25 => ?_)  -- 13.6: t65 := call
          have o25 := (Ext.own out ((((h21.trans h22).trans h23).trans h24).trans h25))
          refine Stp.append Try.underlying33 inf55 rfl (by decide) rfl rfl o25 ((((((hE.trans h21).trans h22).trans h23).trans h24).trans h25).size) (Reads.of_row (r24.ext h25) rfl (by decide)) (by intro q hq; simp [catCells, Value.cells] at hq; exact vr1 _ q hq) (by first | omega | (simp only [List.length_append, List.length_cons, List.length_nil]; omega)) (by unfold maxLen; first | omega | (simp only [List.length_append, List.length_cons, List.length_nil]; omega)) (fun v26 w26 o26 g26 n26 => ?_)
          have e26 := (((((hE.trans h21).trans h22).trans h23).trans h24).trans h25).grown g26 (fun k hk => Nat.le_trans (Nat.le_refl _) (o25.lt k hk).1)
          have x26_2 := (q2.ext ((((h21.trans h22).trans h23).trans h24).trans h25)).grown g26 (own_ne o25 (by omega))
          have x26_9 := (q9.ext ((((h21.trans h22).trans h23).trans h24).trans h25)).grown g26 (own_ne o25 (by omega))
          have z26 : w26.ownsRow w20.heap.size 55 6 v26 (((varTo inf p q.k).take (r.k + 1)).filter (other inf.vars[q.k].name)).length ((((varTo inf p q.k).take (r.k + 1)).filter (other inf.vars[q.k].name)).map vrC).flatten := by rw [filt_yes hjt ho, List.length_append, List.map_append, List.flatten_append]; exact o26
          refine ER.sil rfl rfl rfl rfl (Sil.assign rfl) ?_  -- 13.7: t10 := assign
          refine ER.nil (fun w27 h27 => ?_)
          refine AQ.blockNormal ?_
          refine AQ.then ?_
          -- region 11  ref.go:57
          refine EC.region (fun i => [1, 1, 1].getD i 0) [0, 1, 2] rfl ?_
          refine ER.sil rfl rfl rfl rfl (Sil.move rfl) ?_  -- 11.0: t49 := move
          refine ER.sil rfl rfl rfl rfl (Sil.add rfl rfl) ?_  -- 11.1: t50 := binOp
          refine ER.sil rfl rfl rfl rfl (Sil.assign rfl) ?_  -- 11.2: t11 := assign
          refine ER.nil (fun w28 h28 => ?_)
          exact AQ.round ⟨r.k + 1, _⟩ [1, 2, 6, 7, 8, 9, 10, 11] (by rw [← wrap_succ hjt hlI.max]; rfl) ⟨((e26.trans h27).trans h28), hjt, (Ext.own z26 (h27.trans h28))⟩ (by simp only; omega)
        ·
          have ho : other inf.vars[q.k].name (varTo inf p q.k)[r.k] = false := by simpa [other, vrC] using hb3
          refine EC.skip ?_
          refine AQ.blockNormal ?_
          refine AQ.then ?_
          -- region 11  ref.go:57
          refine EC.region (fun i => [1, 1, 1].getD i 0) [0, 1, 2] rfl ?_
          refine ER.sil rfl rfl rfl rfl (Sil.move rfl) ?_  -- 11.0: t49 := move
          refine ER.sil rfl rfl rfl rfl (Sil.add rfl rfl) ?_  -- 11.1: t50 := binOp
          refine ER.sil rfl rfl rfl rfl (Sil.assign rfl) ?_  -- 11.2: t11 := assign
          refine ER.nil (fun w29 h29 => ?_)
          exact AQ.round ⟨r.k + 1, r.v⟩ [1, 2, 6, 7, 8, 9, 10, 11] (by rw [← wrap_succ hjt hlI.max]; rfl) ⟨(((hE.trans h21).trans h22).trans h29), hjt, by simp only [filt_no hjt ho]; exact (Ext.own out ((h21.trans h22).trans h29))⟩ (by simp only; omega)
      ·
        have hge : r.k = (varTo inf p q.k).length := by have := of_decide_eq_false hb2; omega
        rw [hge, List.take_length] at out
        have hfl2 : ((varTo inf p q.k).filter (other inf.vars[q.k].name)).length ≤ (varTo inf p q.k).length := List.length_filter_le ..
        refine EC.exit ?_
        refine AQ.thenExit ?_
        refine AQ.thenExit ?_
        refine AQ.blockHit ?_
        refine AQ.then ?_
        -- region 14  ref.go:62
        refine EC.region (fun i => [1, 0, 2, 3, 1].getD i 0) [0, 1, 2, 3, 4] rfl ?_
        refine ER.sil rfl rfl rfl rfl (Sil.move rfl) ?_  -- 14.0: t66 := move
        refine ER.ex rfl rfl rfl rfl (Exa.loadAgg (vs := (vrC inf.vars[q.k])) agg55 rfl ((q9.ext h21).at)) ?_  -- 14.1: t67 := load
        refine ER.st rfl rfl rfl rfl (fun w30 h30 => Stp.buildAll [_] Try.underlying33 inf55 rfl rfl rfl rfl rfl rfl (fun w31 h31 s31 r31 => ⟨h31, ?_⟩))  -- 14.2: t68 := buildSlice
        refine ER.bar rfl rfl rfl rfl (fun w32 h32 => ?_)  -- 14.3: t69 := call
        have o32 := (Ext.own out (((h21.trans h30).trans h31).trans h32))
        refine Stp.append Try.underlying33 inf55 rfl (by decide) rfl rfl o32 (((((hE.trans h21).trans h30).trans h31).trans h32).size) (Reads.of_row (r31.ext h32) rfl (by decide)) (by intro q hq; simp [catCells, Value.cells] at hq; exact vr1 _ q hq) (by first | omega | (simp only [List.length_append, List.length_cons, List.length_nil]; omega)) (by unfold maxLen; first | omega | (simp only [List.length_append, List.length_cons, List.length_nil]; omega)) (fun v33 w33 o33 g33 n33 => ?_)
        have e33 := ((((hE.trans h21).trans h30).trans h31).trans h32).grown g33 (fun k hk => Nat.le_trans (Nat.le_refl _) (o32.lt k hk).1)
        have x33_2 := (q2.ext (((h21.trans h30).trans h31).trans h32)).grown g33 (own_ne o32 (by omega))
        have z33 : w33.ownsRow w20.heap.size 55 6 v33 (putV (varTo inf p q.k) inf.vars[q.k]).length ((putV (varTo inf p q.k) inf.vars[q.k]).map vrC).flatten := by rw [putV_eq, List.length_append, List.map_append, List.flatten_append]; exact o33
        refine ER.sil rfl rfl rfl rfl (Sil.assign rfl) ?_  -- 14.4: t7 := assign
        refine ER.nil (fun w34 h34 => ?_)
        refine AQ.blockNormal ?_
        refine AQ.then ?_
        -- region 5  ref.go:51
        refine EC.region (fun i => [1, 1, 1].getD i 0) [0, 1, 2] rfl ?_
        refine ER.sil rfl rfl rfl rfl (Sil.move rfl) ?_  -- 5.0: t27 := move
        refine ER.sil rfl rfl rfl rfl (Sil.add rfl rfl) ?_  -- 5.1: t28 := binOp
        refine ER.sil rfl rfl rfl rfl (Sil.assign rfl) ?_  -- 5.2: t8 := assign
        refine ER.nil (fun w35 h35 => ?_)
        refine AQ.round ⟨q.k + 1, _⟩ [1, 2, 6, 7, 8] (by rw [← wrap_succ hlt hvm]; rfl) ⟨hI.trans ((e33.trans h34).trans h35), (x33_2.ext (h34.trans h35)), ?_, hlt, fun _ => hnb⟩ (by simp only; omega)
        simp only [varTo_yes hlt hp]
        exact LR.of_map vrL (Reads.of_own (Ext.own z33 (h34.trans h35)))
  ·
    refine EC.exit ?_
    refine AQ.thenExit ?_
    refine AQ.thenExit ?_
    refine AQ.blockHit ?_
    refine AQ.then ?_
    refine EC.seq ?_
    -- region 15  ref.go:64
    refine EC.region (fun i => [1, 1].getD i 0) [0, 1] rfl ?_
    refine ER.sil rfl rfl rfl rfl (Sil.move rfl) ?_  -- 15.0: t70 := move
    refine ER.sil rfl rfl rfl rfl (Sil.assign rfl) ?_  -- 15.1: t4 := assign
    refine ER.nil (fun w36 h36 => ?_)
    refine AQ.then ?_
    refine EC.ret ?_
    refine AQ.ret1 Try.results14 rfl ?_
    refine ⟨_, rfl, ((hE.trans h11).trans h36), ?_⟩
    have hz := (hl.ext (h11.trans h36))
    by_cases hn : (nodeO inf p).isSome = true
    · have hge : q.k = inf.vars.length := by
        rw [hn, Bool.and_true] at hb0
        have := of_decide_eq_false hb0
        omega
      rw [hge, varTo_all] at hz
      rw [varsS, if_pos hn]
      exact hz
    · have hz0 : q.k = 0 := Nat.eq_zero_of_not_pos fun h => hn (hno h)
      rw [hz0] at hz
      rw [varsS, if_neg hn]
      exact hz

end Go.Proofs.Ytcgapppamhffjaa
