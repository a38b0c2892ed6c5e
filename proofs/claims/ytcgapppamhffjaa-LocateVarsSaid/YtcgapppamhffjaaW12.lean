/- Locate: the same. -/
import Derived.Test.YtcgapppamhffjaaEq
namespace Go.Proofs.Ytcgapppamhffjaa
open Go.RowKit Go.XK Go.LocateLaw

-- linchpin/linchpinref42.SameVars: parameters ['[]api.Var', '[]api.Var'] (free 0), results [('ResultVar.tmp', 4)], 26 slots
set_option maxRecDepth 100000 in
theorem samev_any (l : List Vr) (a b : Value) (w : World) (ha : LR 6 vrC w a l) (hb : LR 6 vrC w b l) :
    Calls Try.prog 12 [a, b].toArray w fun e w' => e = .returned (.bool true) ∧ Ext w w' := by
  have hm := ha.max
  refine calls_of Try.func12 rfl Try.ntmps12 rfl ?_
  refine EC.seq ?_
  -- region 0  ref.go:112
  refine EC.region (fun i => [1].getD i 0) [0] rfl ?_
  refine ER.sil rfl rfl rfl rfl (Sil.assign rfl) ?_  -- 0.0: t4 := assign
  refine ER.nil (fun w1 h1 => ?_)
  refine AQ.then ?_
  refine EC.seq ?_
  refine EC.seq ?_
  -- region 1  ref.go:113
  refine EC.region (fun i => [1, 1, 1, 1, 1].getD i 0) [0, 1, 2, 3, 4] rfl ?_
  refine ER.sil rfl rfl rfl rfl (Sil.move rfl) ?_  -- 1.0: t6 := move
  refine ER.sil rfl rfl rfl rfl (Sil.lenR Try.underlying33 rfl (ha.isS)) ?_  -- 1.1: t7 := call
  refine ER.sil rfl rfl rfl rfl (Sil.move rfl) ?_  -- 1.2: t8 := move
  refine ER.sil rfl rfl rfl rfl (Sil.lenR Try.underlying33 rfl (hb.isS)) ?_  -- 1.3: t9 := call
  refine ER.sil rfl rfl rfl rfl (Sil.neq rfl rfl) ?_  -- 1.4: t10 := binOp
  refine ER.nil (fun w2 h2 => ?_)
  refine AQ.then ?_
  refine EC.cond rfl (fun hb0 => ?_) (fun hb0 => ?_)  -- cond 0: t10
  ·
    simp at hb0
  ·
    refine EC.skip ?_
    refine AQ.then ?_
    refine EC.seq ?_
    refine EC.seq ?_
    -- region 3  ref.go:116
    refine EC.region (fun i => [1].getD i 0) [0] rfl ?_
    refine ER.sil rfl rfl rfl rfl (Sil.assign rfl) ?_  -- 3.0: t5 := assign
    refine ER.nil (fun w3 h3 => ?_)
    refine AQ.then ?_
    refine EC.block ?_
    refine EC.loop (σ := Nat) (fun k => [(0, a), (1, b), (5, .int .i64 (k : Int))]) (fun k wr => Ext w wr ∧ k ≤ l.length) (fun k => l.length - k) 0 [0, 1, 5] rfl ?_ (fun k wr hF => ?_)
    · exact ⟨((h1.trans h2).trans h3), Nat.zero_le _⟩
    obtain ⟨hE, hk⟩ := hF
    refine EC.seq ?_
    refine EC.seq ?_
    -- region 4  ref.go:116
    refine EC.region (fun i => [1, 1, 1, 1].getD i 0) [0, 1, 2, 3] rfl ?_
    refine ER.sil rfl rfl rfl rfl (Sil.move rfl) ?_  -- 4.0: t11 := move
    refine ER.sil rfl rfl rfl rfl (Sil.move rfl) ?_  -- 4.1: t12 := move
    refine ER.sil rfl rfl rfl rfl (Sil.lenR Try.underlying33 rfl (ha.isS)) ?_  -- 4.2: t13 := call
    refine ER.sil rfl rfl rfl rfl (Sil.lss rfl rfl) ?_  -- 4.3: t14 := binOp
    refine ER.nil (fun w4 h4 => ?_)
    refine AQ.then ?_
    refine EC.cond rfl (fun hb1 => ?_) (fun hb1 => ?_)  -- cond 1: t14
    ·
      have hlt : k < l.length := by have := of_decide_eq_true hb1; omega
      refine EC.skip ?_
      refine AQ.then ?_
      refine EC.seq ?_
      refine EC.block ?_
      refine EC.seq ?_
      -- region 6  ref.go:117
      refine EC.draw (fun i => [1, 1, 1, 0, 1, 1, 1, 0, 1].getD i 0) [0, 1, 2, 3, 4, 5, 6, 7, 8] (by kernel_rfl) (by kernel_rfl) ?_
      refine ER.sil rfl rfl rfl rfl (Sil.move rfl) ?_  -- 6.0: t17 := move
      refine ER.sil rfl rfl rfl rfl (Sil.move rfl) ?_  -- 6.1: t18 := move
      refine ER.sil rfl rfl rfl rfl (Sil.indexR Try.underlying33 inf55 rfl rfl (ha.isE (by omega)) (by omega) (by omega)) ?_  -- 6.2: t19 := indexAddr
      refine ER.ex rfl rfl rfl rfl (Exa.loadAgg (vs := (vrC l[k])) agg55 rfl ((ha.at hlt).ext (hE.trans h4))) ?_  -- 6.3: t20 := load
      refine ER.sil rfl rfl rfl rfl (Sil.move rfl) ?_  -- 6.4: t21 := move
      refine ER.sil rfl rfl rfl rfl (Sil.move rfl) ?_  -- 6.5: t22 := move
      refine ER.sil rfl rfl rfl rfl (Sil.indexR Try.underlying33 inf55 rfl rfl (hb.isE (by omega)) (by omega) (by omega)) ?_  -- 6.6: t23 := indexAddr
      refine ER.ex rfl rfl rfl rfl (Exa.loadAgg (vs := (vrC l[k])) agg55 rfl ((hb.at hlt).ext (hE.trans h4))) ?_  -- 6.7: t24 := load
      refine ER.sil rfl rfl rfl rfl (Sil.tneq (fun wy => vr_neq _ _ l[k] l[k] wy) rfl rfl) ?_  -- 6.8: t25 := binOp
      refine ER.nil (fun w5 h5 => ?_)
      refine AQ.then ?_
      refine EC.cond rfl (fun hb2 => ?_) (fun hb2 => ?_)  -- cond 2: t25
      ·
        simp at hb2
      ·
        refine EC.skip ?_
        refine AQ.blockNormal ?_
        refine AQ.then ?_
        -- region 5  ref.go:116
        refine EC.region (fun i => [1, 1, 1].getD i 0) [0, 1, 2] rfl ?_
        refine ER.sil rfl rfl rfl rfl (Sil.move rfl) ?_  -- 5.0: t15 := move
        refine ER.sil rfl rfl rfl rfl (Sil.add rfl rfl) ?_  -- 5.1: t16 := binOp
        refine ER.sil rfl rfl rfl rfl (Sil.assign rfl) ?_  -- 5.2: t5 := assign
        refine ER.nil (fun w6 h6 => ?_)
        exact AQ.round (k + 1) [0, 1, 5] (by rw [← wrap_succ hlt hm]; rfl) ⟨(((hE.trans h4).trans h5).trans h6), hlt⟩ (by omega)
    ·
      refine EC.exit ?_
      refine AQ.thenExit ?_
      refine AQ.thenExit ?_
      refine AQ.blockHit ?_
      refine AQ.then ?_
      refine EC.seq ?_
      -- region 8  ref.go:121
      refine EC.region (fun i => [1].getD i 0) [0] rfl ?_
      refine ER.sil rfl rfl rfl rfl (Sil.assign rfl) ?_  -- 8.0: t4 := assign
      refine ER.nil (fun w7 h7 => ?_)
      refine AQ.then ?_
      refine EC.ret ?_
      refine AQ.ret1 Try.results12 rfl ?_
      exact ⟨rfl, ((hE.trans h4).trans h7)⟩

-- linchpin/linchpinref42.SameInts: parameters ['[]int', '[]int'] (free 0), results [('ResultVar.tmp', 4)], 26 slots
set_option maxRecDepth 100000 in
theorem samei_any (l : List Int) (a b : Value) (w : World) (ha : LR 1 (fun k : Int => [.int .i64 k]) w a l) (hb : LR 1 (fun k : Int => [.int .i64 k]) w b l) :
    Calls Try.prog 15 [a, b].toArray w fun e w' => e = .returned (.bool true) ∧ Ext w w' := by
  have hm := ha.max
  refine calls_of Try.func15 rfl Try.ntmps15 rfl ?_
  refine EC.seq ?_
  -- region 0  ref.go:125
  refine EC.region (fun i => [1].getD i 0) [0] rfl ?_
  refine ER.sil rfl rfl rfl rfl (Sil.assign rfl) ?_  -- 0.0: t4 := assign
  refine ER.nil (fun w1 h1 => ?_)
  refine AQ.then ?_
  refine EC.seq ?_
  refine EC.seq ?_
  -- region 1  ref.go:126
  refine EC.region (fun i => [1, 1, 1, 1, 1].getD i 0) [0, 1, 2, 3, 4] rfl ?_
  refine ER.sil rfl rfl rfl rfl (Sil.move rfl) ?_  -- 1.0: t6 := move
  refine ER.sil rfl rfl rfl rfl (Sil.lenR Try.underlying25 rfl (ha.isS)) ?_  -- 1.1: t7 := call
  refine ER.sil rfl rfl rfl rfl (Sil.move rfl) ?_  -- 1.2: t8 := move
  refine ER.sil rfl rfl rfl rfl (Sil.lenR Try.underlying25 rfl (hb.isS)) ?_  -- 1.3: t9 := call
  refine ER.sil rfl rfl rfl rfl (Sil.neq rfl rfl) ?_  -- 1.4: t10 := binOp
  refine ER.nil (fun w2 h2 => ?_)
  refine AQ.then ?_
  refine EC.cond rfl (fun hb0 => ?_) (fun hb0 => ?_)  -- cond 0: t10
  ·
    simp at hb0
  ·
    refine EC.skip ?_
    refine AQ.then ?_
    refine EC.seq ?_
    refine EC.seq ?_
    -- region 3  ref.go:129
    refine EC.region (fun i => [1].getD i 0) [0] rfl ?_
    refine ER.sil rfl rfl rfl rfl (Sil.assign rfl) ?_  -- 3.0: t5 := assign
    refine ER.nil (fun w3 h3 => ?_)
    refine AQ.then ?_
    refine EC.block ?_
    refine EC.loop (σ := Nat) (fun k => [(0, a), (1, b), (5, .int .i64 (k : Int))]) (fun k wr => Ext w wr ∧ k ≤ l.length) (fun k => l.length - k) 0 [0, 1, 5] rfl ?_ (fun k wr hF => ?_)
    · exact ⟨((h1.trans h2).trans h3), Nat.zero_le _⟩
    obtain ⟨hE, hk⟩ := hF
    refine EC.seq ?_
    refine EC.seq ?_
    -- region 4  ref.go:129
    refine EC.region (fun i => [1, 1, 1, 1].getD i 0) [0, 1, 2, 3] rfl ?_
    refine ER.sil rfl rfl rfl rfl (Sil.move rfl) ?_  -- 4.0: t11 := move
    refine ER.sil rfl rfl rfl rfl (Sil.move rfl) ?_  -- 4.1: t12 := move
    refine ER.sil rfl rfl rfl rfl (Sil.lenR Try.underlying25 rfl (ha.isS)) ?_  -- 4.2: t13 := call
    refine ER.sil rfl rfl rfl rfl (Sil.lss rfl rfl) ?_  -- 4.3: t14 := binOp
    refine ER.nil (fun w4 h4 => ?_)
    refine AQ.then ?_
    refine EC.cond rfl (fun hb1 => ?_) (fun hb1 => ?_)  -- cond 1: t14
    ·
      have hlt : k < l.length := by have := of_decide_eq_true hb1; omega
      refine EC.skip ?_
      refine AQ.then ?_
      refine EC.seq ?_
      refine EC.block ?_
      refine EC.seq ?_
      -- region 6  ref.go:130
      refine EC.draw (fun i => [1, 1, 1, 0, 1, 1, 1, 0, 1].getD i 0) [0, 1, 2, 3, 4, 5, 6, 7, 8] (by kernel_rfl) (by kernel_rfl) ?_
      refine ER.sil rfl rfl rfl rfl (Sil.move rfl) ?_  -- 6.0: t17 := move
      refine ER.sil rfl rfl rfl rfl (Sil.move rfl) ?_  -- 6.1: t18 := move
      refine ER.sil rfl rfl rfl rfl (Sil.indexR Try.underlying25 inf3 rfl rfl (ha.isE (by omega)) (by omega) (by omega)) ?_  -- 6.2: t19 := indexAddr
      refine ER.ex rfl rfl rfl rfl (Exa.load flat3 rfl (((ha.at hlt).ext (hE.trans h4)) 0 _ rfl)) ?_  -- 6.3: t20 := load
      refine ER.sil rfl rfl rfl rfl (Sil.move rfl) ?_  -- 6.4: t21 := move
      refine ER.sil rfl rfl rfl rfl (Sil.move rfl) ?_  -- 6.5: t22 := move
      refine ER.sil rfl rfl rfl rfl (Sil.indexR Try.underlying25 inf3 rfl rfl (hb.isE (by omega)) (by omega) (by omega)) ?_  -- 6.6: t23 := indexAddr
      refine ER.ex rfl rfl rfl rfl (Exa.load flat3 rfl (((hb.at hlt).ext (hE.trans h4)) 0 _ rfl)) ?_  -- 6.7: t24 := load
      refine ER.sil rfl rfl rfl rfl (Sil.neq rfl rfl) ?_  -- 6.8: t25 := binOp
      refine ER.nil (fun w5 h5 => ?_)
      refine AQ.then ?_
      refine EC.cond rfl (fun hb2 => ?_) (fun hb2 => ?_)  -- cond 2: t25
      ·
        simp at hb2
      ·
        refine EC.skip ?_
        refine AQ.blockNormal ?_
        refine AQ.then ?_
        -- region 5  ref.go:129
        refine EC.region (fun i => [1, 1, 1].getD i 0) [0, 1, 2] rfl ?_
        refine ER.sil rfl rfl rfl rfl (Sil.move rfl) ?_  -- 5.0: t15 := move
        refine ER.sil rfl rfl rfl rfl (Sil.add rfl rfl) ?_  -- 5.1: t16 := binOp
        refine ER.sil rfl rfl rfl rfl (Sil.assign rfl) ?_  -- 5.2: t5 := assign
        refine ER.nil (fun w6 h6 => ?_)
        exact AQ.round (k + 1) [0, 1, 5] (by rw [← wrap_succ hlt hm]; rfl) ⟨(((hE.trans h4).trans h5).trans h6), hlt⟩ (by omega)
    ·
      refine EC.exit ?_
      refine AQ.thenExit ?_
      refine AQ.thenExit ?_
      refine AQ.blockHit ?_
      refine AQ.then ?_
      refine EC.seq ?_
      -- region 8  ref.go:134
      refine EC.region (fun i => [1].getD i 0) [0] rfl ?_
      refine ER.sil rfl rfl rfl rfl (Sil.assign rfl) ?_  -- 8.0: t4 := assign
      refine ER.nil (fun w7 h7 => ?_)
      refine AQ.then ?_
      refine EC.ret ?_
      refine AQ.ret1 Try.results15 rfl ?_
      exact ⟨rfl, ((hE.trans h4).trans h7)⟩

end Go.Proofs.Ytcgapppamhffjaa
