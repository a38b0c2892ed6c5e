/- Locate: the same spot. -/
import Derived.Test.YtcgapppamhffjaaW12
namespace Go.Proofs.Ytcgapppamhffjaa
open Go.RowKit Go.XK Go.LocateLaw

-- linchpin/linchpinref42.SameSpot: parameters ['api.Spot', 'api.Spot'] (free 0), results [('ResultVar.tmp', 4)], 59 slots
set_option maxRecDepth 100000 in
theorem sames_any (s : Sot) (a b : Value) (w : World) (ha : LR 6 ilC w a s.inls) (hb : LR 6 ilC w b s.inls) :
    Calls Try.prog 11 [.agg (sotC s a).toArray, .agg (sotC s b).toArray].toArray w fun e w' => e = .returned (.bool true) ∧ Ext w w' := by
  have hm := ha.max
  obtain ⟨a1, a2, rfl, _⟩ := ha.isS
  obtain ⟨b1, b2, rfl, _⟩ := hb.isS
  refine calls_of Try.func11 rfl Try.ntmps11 rfl ?_
  refine EC.seq ?_
  -- region 0  ref.go:99
  refine EC.region (fun i => [2, 2, 1].getD i 0) [0, 1, 2] rfl ?_
  refine ER.st rfl rfl rfl rfl (fun w1 h1 => Stp.box rfl (fun w2 h2 s2 r2 => ⟨h2, ?_⟩))  -- 0.0: t2 := box
  refine ER.st rfl rfl rfl rfl (fun w3 h3 => Stp.box rfl (fun w4 h4 s4 r4 => ⟨h4, ?_⟩))  -- 0.1: t3 := box
  refine ER.sil rfl rfl rfl rfl (Sil.assign rfl) ?_  -- 0.2: t4 := assign
  refine ER.nil (fun w5 h5 => ?_)
  refine AQ.then ?_
  refine EC.seq ?_
  refine EC.seq ?_
  -- region 1  ref.go:100
  refine EC.region (fun i => [1, 0, 1, 0, 1, 1, 1, 0, 1, 0, 1, 1, 1, 1, 0, 1, 0, 1, 1, 1, 1, 0, 1, 0, 1, 1, 1, 1, 0, 1, 1, 0, 1, 1, 1].getD i 0) [0, 1, 2, 3, 4, 5, 6, 7, 8, 9, 10, 11, 12, 13, 14, 15, 16, 17, 18, 19, 20, 21, 22, 23, 24, 25, 26, 27, 28, 29, 30, 31, 32, 33, 34] rfl ?_
  refine ER.sil rfl rfl rfl rfl (Sil.fieldAddr Try.underlying43 rfl inf9 rfl) ?_  -- 1.0: t6 := fieldAddr
  refine ER.ex rfl rfl rfl rfl (Exa.load flat9 rfl ((r2.ext ((h3.trans h4).trans h5)).cell rfl)) ?_  -- 1.1: t7 := load
  refine ER.sil rfl rfl rfl rfl (Sil.fieldAddr Try.underlying43 rfl inf9 rfl) ?_  -- 1.2: t8 := fieldAddr
  refine ER.ex rfl rfl rfl rfl (Exa.load flat9 rfl ((r4.ext h5).cell rfl)) ?_  -- 1.3: t9 := load
  refine ER.sil rfl rfl rfl rfl (Sil.sneq rfl rfl) ?_  -- 1.4: t10 := binOp
  refine ER.sil rfl rfl rfl rfl (Sil.move rfl) ?_  -- 1.5: t11 := move
  refine ER.silG rfl rfl rfl rfl rfl rfl (fun hc => Sil.fieldAddr Try.underlying43 rfl inf3 rfl) ?_  -- 1.6: t12 := fieldAddr
  refine ER.exG rfl rfl rfl rfl rfl rfl (fun hc => Exa.load flat3 (congrArg some (sel_eq hc _)) ((r2.ext ((h3.trans h4).trans h5)).cell rfl)) ?_  -- 1.7: t13 := load
  refine ER.silG rfl rfl rfl rfl rfl rfl (fun hc => Sil.fieldAddr Try.underlying43 rfl inf3 rfl) ?_  -- 1.8: t14 := fieldAddr
  refine ER.exG rfl rfl rfl rfl rfl rfl (fun hc => Exa.load flat3 (congrArg some (sel_eq hc _)) ((r4.ext h5).cell rfl)) ?_  -- 1.9: t15 := load
  refine ER.silG rfl rfl rfl rfl rfl rfl (fun hc => Sil.neq (congrArg some (sel_eq hc _)) (congrArg some (sel_eq hc _))) ?_  -- 1.10: t16 := binOp
  refine ER.sil rfl rfl rfl rfl (Sil.pickOr rfl rfl rfl) ?_  -- 1.11: t17 := pick
  refine ER.sil rfl rfl rfl rfl (Sil.move rfl) ?_  -- 1.12: t18 := move
  refine ER.silG rfl rfl rfl rfl rfl rfl (fun hc => Sil.fieldAddr Try.underlying43 rfl inf9 rfl) ?_  -- 1.13: t19 := fieldAddr
  refine ER.exG rfl rfl rfl rfl rfl rfl (fun hc => Exa.load flat9 (congrArg some (sel_eq hc _)) ((r2.ext ((h3.trans h4).trans h5)).cell rfl)) ?_  -- 1.14: t20 := load
  refine ER.silG rfl rfl rfl rfl rfl rfl (fun hc => Sil.fieldAddr Try.underlying43 rfl inf9 rfl) ?_  -- 1.15: t21 := fieldAddr
  refine ER.exG rfl rfl rfl rfl rfl rfl (fun hc => Exa.load flat9 (congrArg some (sel_eq hc _)) ((r4.ext h5).cell rfl)) ?_  -- 1.16: t22 := load
  refine ER.silG rfl rfl rfl rfl rfl rfl (fun hc => Sil.sneq (congrArg some (sel_eq hc _)) (congrArg some (sel_eq hc _))) ?_  -- 1.17: t23 := binOp
  refine ER.sil rfl rfl rfl rfl (Sil.pickOr rfl rfl rfl) ?_  -- 1.18: t24 := pick
  refine ER.sil rfl rfl rfl rfl (Sil.move rfl) ?_  -- 1.19: t25 := move
  refine ER.silG rfl rfl rfl rfl rfl rfl (fun hc => Sil.fieldAddr Try.underlying43 rfl inf3 rfl) ?_  -- 1.20: t26 := fieldAddr
  refine ER.exG rfl rfl rfl rfl rfl rfl (fun hc => Exa.load flat3 (congrArg some (sel_eq hc _)) ((r2.ext ((h3.trans h4).trans h5)).cell rfl)) ?_  -- 1.21: t27 := load
  refine ER.silG rfl rfl rfl rfl rfl rfl (fun hc => Sil.fieldAddr Try.underlying43 rfl inf3 rfl) ?_  -- 1.22: t28 := fieldAddr
  refine ER.exG rfl rfl rfl rfl rfl rfl (fun hc => Exa.load flat3 (congrArg some (sel_eq hc _)) ((r4.ext h5).cell rfl)) ?_  -- 1.23: t29 := load
  refine ER.silG rfl rfl rfl rfl rfl rfl (fun hc => Sil.neq (congrArg some (sel_eq hc _)) (congrArg some (sel_eq hc _))) ?_  -- 1.24: t30 := binOp
  refine ER.sil rfl rfl rfl rfl (Sil.pickOr rfl rfl rfl) ?_  -- 1.25: t31 := pick
  refine ER.sil rfl rfl rfl rfl (Sil.move rfl) ?_  -- 1.26: t32 := move
  refine ER.silG rfl rfl rfl rfl rfl rfl (fun hc => Sil.fieldAddr Try.underlying43 rfl inf32 rfl) ?_  -- 1.27: t33 := fieldAddr
  refine ER.exG rfl rfl rfl rfl rfl rfl (fun hc => Exa.load flat32 (congrArg some (sel_eq hc _)) ((r2.ext ((h3.trans h4).trans h5)).cell rfl)) ?_  -- 1.28: t34 := load
  refine ER.silG rfl rfl rfl rfl rfl rfl (fun hc => Sil.lenR Try.underlying32 (congrArg some (sel_eq hc _)) (ha.isS)) ?_  -- 1.29: t35 := call
  refine ER.silG rfl rfl rfl rfl rfl rfl (fun hc => Sil.fieldAddr Try.underlying43 rfl inf32 rfl) ?_  -- 1.30: t36 := fieldAddr
  refine ER.exG rfl rfl rfl rfl rfl rfl (fun hc => Exa.load flat32 (congrArg some (sel_eq hc _)) ((r4.ext h5).cell rfl)) ?_  -- 1.31: t37 := load
  refine ER.silG rfl rfl rfl rfl rfl rfl (fun hc => Sil.lenR Try.underlying32 (congrArg some (sel_eq hc _)) (hb.isS)) ?_  -- 1.32: t38 := call
  refine ER.silG rfl rfl rfl rfl rfl rfl (fun hc => Sil.neq (congrArg some (sel_eq hc _)) (congrArg some (sel_eq hc _))) ?_  -- 1.33: t39 := binOp
  refine ER.sil rfl rfl rfl rfl (Sil.pickOr rfl rfl rfl) ?_  -- 1.34: t40 := pick
  refine ER.nil (fun w6 h6 => ?_)
  refine AQ.then ?_
  refine EC.cond rfl (fun hb0 => ?_) (fun hb0 => ?_)  -- cond 0: t40
  ·
    simp at hb0
  ·
    refine EC.skip ?_
    refine AQ.then ?_
    refine EC.seq ?_
    refine EC.seq ?_
    -- region 3  ref.go:103
    refine EC.region (fun i => [1].getD i 0) [0] rfl ?_
    refine ER.sil rfl rfl rfl rfl (Sil.assign rfl) ?_  -- 3.0: t5 := assign
    refine ER.nil (fun w7 h7 => ?_)
    refine AQ.then ?_
    refine EC.block ?_
    refine EC.loop (σ := Nat) (fun k => [(2, ptr w1.heap.size), (3, ptr w3.heap.size), (5, .int .i64 (k : Int))]) (fun k wr => Ext w wr ∧ Row wr w1.heap.size 43 (sotC s (.slice a1 s.inls.length a2)) ∧ Row wr w3.heap.size 43 (sotC s (.slice b1 s.inls.length b2)) ∧ k ≤ s.inls.length) (fun k => s.inls.length - k) 0 [2, 3, 5] rfl ?_ (fun k wr hF => ?_)
    · exact ⟨((((((h1.trans h2).trans h3).trans h4).trans h5).trans h6).trans h7), (r2.ext ((((h3.trans h4).trans h5).trans h6).trans h7)), (r4.ext ((h5.trans h6).trans h7)), Nat.zero_le _⟩
    obtain ⟨hE, q2, q3, hk⟩ := hF
    refine EC.seq ?_
    refine EC.seq ?_
    -- region 4  ref.go:103
    refine EC.region (fun i => [1, 1, 0, 1, 1].getD i 0) [0, 1, 2, 3, 4] rfl ?_
    refine ER.sil rfl rfl rfl rfl (Sil.move rfl) ?_  -- 4.0: t41 := move
    refine ER.sil rfl rfl rfl rfl (Sil.fieldAddr Try.underlying43 rfl inf32 rfl) ?_  -- 4.1: t42 := fieldAddr
    refine ER.ex rfl rfl rfl rfl (Exa.load flat32 rfl (q2.cell rfl)) ?_  -- 4.2: t43 := load
    refine ER.sil rfl rfl rfl rfl (Sil.lenR Try.underlying32 rfl (ha.isS)) ?_  -- 4.3: t44 := call
    refine ER.sil rfl rfl rfl rfl (Sil.lss rfl rfl) ?_  -- 4.4: t45 := binOp
    refine ER.nil (fun w8 h8 => ?_)
    refine AQ.then ?_
    refine EC.cond rfl (fun hb1 => ?_) (fun hb1 => ?_)  -- cond 1: t45
    ·
      have hlt : k < s.inls.length := by have := of_decide_eq_true hb1; omega
      refine EC.skip ?_
      refine AQ.then ?_
      refine EC.seq ?_
      refine EC.block ?_
      refine EC.seq ?_
      -- region 6  ref.go:104
      refine EC.draw (fun i => [1, 0, 1, 1, 0, 1, 0, 1, 1, 0, 1].getD i 0) [0, 1, 2, 3, 4, 5, 6, 7, 8, 9, 10] (by kernel_rfl) (by kernel_rfl) ?_
      refine ER.sil rfl rfl rfl rfl (Sil.fieldAddr Try.underlying43 rfl inf32 rfl) ?_  -- 6.0: t48 := fieldAddr
      refine ER.ex rfl rfl rfl rfl (Exa.load flat32 rfl ((q2.ext h8).cell rfl)) ?_  -- 6.1: t49 := load
      refine ER.sil rfl rfl rfl rfl (Sil.move rfl) ?_  -- 6.2: t50 := move
      refine ER.sil rfl rfl rfl rfl (Sil.indexR Try.underlying32 inf57 rfl rfl (ha.isE (by omega)) (by omega) (by omega)) ?_  -- 6.3: t51 := indexAddr
      refine ER.ex rfl rfl rfl rfl (Exa.loadAgg (vs := (ilC s.inls[k])) agg57 rfl ((ha.at hlt).ext (hE.trans h8))) ?_  -- 6.4: t52 := load
      refine ER.sil rfl rfl rfl rfl (Sil.fieldAddr Try.underlying43 rfl inf32 rfl) ?_  -- 6.5: t53 := fieldAddr
      refine ER.ex rfl rfl rfl rfl (Exa.load flat32 rfl ((q3.ext h8).cell rfl)) ?_  -- 6.6: t54 := load
      refine ER.sil rfl rfl rfl rfl (Sil.move rfl) ?_  -- 6.7: t55 := move
      refine ER.sil rfl rfl rfl rfl (Sil.indexR Try.underlying32 inf57 rfl rfl (hb.isE (by omega)) (by omega) (by omega)) ?_  -- 6.8: t56 := indexAddr
      refine ER.ex rfl rfl rfl rfl (Exa.loadAgg (vs := (ilC s.inls[k])) agg57 rfl ((hb.at hlt).ext (hE.trans h8))) ?_  -- 6.9: t57 := load
      refine ER.sil rfl rfl rfl rfl (Sil.tneq (fun wy => il_neq _ _ s.inls[k] s.inls[k] wy) rfl rfl) ?_  -- 6.10: t58 := binOp
      refine ER.nil (fun w9 h9 => ?_)
      refine AQ.then ?_
      refine EC.cond rfl (fun hb2 => ?_) (fun hb2 => ?_)  -- cond 2: t58
      ·
        simp at hb2
      ·
        refine EC.skip ?_
        refine AQ.blockNormal ?_
        refine AQ.then ?_
        -- region 5  ref.go:103
        refine EC.region (fun i => [1, 1, 1].getD i 0) [0, 1, 2] rfl ?_
        refine ER.sil rfl rfl rfl rfl (Sil.move rfl) ?_  -- 5.0: t46 := move
        refine ER.sil rfl rfl rfl rfl (Sil.add rfl rfl) ?_  -- 5.1: t47 := binOp
        refine ER.sil rfl rfl rfl rfl (Sil.assign rfl) ?_  -- 5.2: t5 := assign
        refine ER.nil (fun w10 h10 => ?_)
        exact AQ.round (k + 1) [2, 3, 5] (by rw [← wrap_succ hlt hm]; rfl) ⟨(((hE.trans h8).trans h9).trans h10), (q2.ext ((h8.trans h9).trans h10)), (q3.ext ((h8.trans h9).trans h10)), hlt⟩ (by omega)
    ·
      refine EC.exit ?_
      refine AQ.thenExit ?_
      refine AQ.thenExit ?_
      refine AQ.blockHit ?_
      refine AQ.then ?_
      refine EC.seq ?_
      -- region 8  ref.go:108
      refine EC.region (fun i => [1].getD i 0) [0] rfl ?_
      refine ER.sil rfl rfl rfl rfl (Sil.assign rfl) ?_  -- 8.0: t4 := assign
      refine ER.nil (fun w11 h11 => ?_)
      refine AQ.then ?_
      refine EC.ret ?_
      refine AQ.ret1 Try.results11 rfl ?_
      exact ⟨rfl, ((hE.trans h8).trans h11)⟩

end Go.Proofs.Ytcgapppamhffjaa
