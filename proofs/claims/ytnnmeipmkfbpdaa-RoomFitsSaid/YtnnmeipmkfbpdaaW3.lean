/- Room: the walks of Total and of the reference. -/
import Derived.Test.YtnnmeipmkfbpdaaW2
namespace Go.Proofs.Ytnnmeipmkfbpdaa
open Go.RowKit Go.XK Go.RoomLaw

-- linchpin/room.Total: parameters ['[]api.Span'] (free 0), results [('ResultVar.tmp', 2)], 20 slots
theorem total_any (l : List Sp) (v : Value) (w : World) (hl : Spans w v l) :
    Calls Try.prog 18 [v].toArray w fun e w' => e = .returned (.int .i64 (totB l)) ∧ Ext w w' := by
  obtain ⟨b0, c0, rfl, hm⟩ := Spans.len hl
  refine calls_of Try.func18 rfl Try.ntmps18 rfl ?_
  refine EC.seq ?_
  -- region 0  room.go:98
  refine EC.region (fun i => [1].getD i 0) [0] rfl ?_
  refine ER.sil rfl rfl rfl rfl (Sil.assign rfl) ?_  -- 0.0: t2 := assign
  refine ER.nil (fun w1 h1 => ?_)
  refine AQ.then ?_
  refine EC.seq ?_
  -- region 1  room.go:99
  refine EC.region (fun i => [1].getD i 0) [0] rfl ?_
  refine ER.sil rfl rfl rfl rfl (Sil.assign rfl) ?_  -- 1.0: t3 := assign
  refine ER.nil (fun w2 h2 => ?_)
  refine AQ.then ?_
  refine EC.seq ?_
  refine EC.seq ?_
  -- region 2  room.go:100
  refine EC.region (fun i => [1, 0].getD i 0) [0, 1] rfl ?_
  refine ER.sil rfl rfl rfl rfl (Sil.move rfl) ?_  -- 2.0: t6 := move
  refine ER.ex rfl rfl rfl rfl (Exa.call fok16 rfl rfl (fun wx hx => (right_any l _ wx (hl.ext ((h1.trans h2).trans hx))))) ?_  -- 2.1: t7 := call
  refine ER.nil (fun w3 h3 => ?_)
  refine AQ.then ?_
  refine EC.cond rfl (fun hb0 => ?_) (fun hb0 => ?_)  -- cond 0: t7
  ·
    refine EC.seq ?_
    -- region 3  room.go:101
    refine EC.region (fun i => [1, 1, 1].getD i 0) [0, 1, 2] rfl ?_
    refine ER.sil rfl rfl rfl rfl (Sil.move rfl) ?_  -- 3.0: t8 := move
    refine ER.sil rfl rfl rfl rfl (Sil.len Try.underlying22 rfl) ?_  -- 3.1: t9 := call
    refine ER.sil rfl rfl rfl rfl (Sil.move rfl) ?_  -- 3.2: t10 := move
    refine ER.nil (fun w4 h4 => ?_)
    refine AQ.then ?_
    refine EC.block ?_
    refine EC.loop (σ := Nat) (fun k => [(0, .slice b0 l.length c0), (3, .int .i64 (sumW (l.take k))), (8, .slice b0 l.length c0), (9, .int .i64 (l.length : Int)), (10, .int .i64 (k : Int))]) (fun k wr => Ext w wr ∧ k ≤ l.length) (fun k => l.length - k) 0 [0, 3, 8, 9, 10] rfl ?_ (fun k wr hF => ?_)
    · exact ⟨(((h1.trans h2).trans h3).trans h4), Nat.zero_le _⟩
    obtain ⟨hE, hk⟩ := hF
    refine EC.seq ?_
    -- region 4  room.go:101
    refine EC.region (fun i => [1].getD i 0) [0] rfl ?_
    refine ER.sil rfl rfl rfl rfl (Sil.lss rfl rfl) ?_  -- 4.0: t11 := binOp
    refine ER.nil (fun w5 h5 => ?_)
    refine AQ.then ?_
    refine EC.seq ?_
    refine EC.cond rfl (fun hb1 => ?_) (fun hb1 => ?_)  -- cond 1: t11
    ·
      have hlt : k < l.length := by simpa using hb1
      obtain ⟨b, o, rfl, hat⟩ := Spans.has (hl.ext (hE.trans h5)) hlt
      refine EC.skip ?_
      refine AQ.then ?_
      refine EC.seq ?_
      refine EC.block ?_
      refine EC.seq ?_
      -- region 5  room.go:101
      refine EC.region (fun i => [1, 0, 2, 3].getD i 0) [0, 1, 2, 3] rfl ?_
      refine ER.sil rfl rfl rfl rfl (Sil.indexAddr Try.underlying22 inf24 rfl rfl (by omega) (by omega)) ?_  -- 5.0: t12 := indexAddr
      refine ER.ex rfl rfl rfl rfl (Exa.loadAgg (vs := spC (gt l k)) agg24 rfl (Spans.at hat hlt)) ?_  -- 5.1: t13 := load
      refine ER.st rfl rfl rfl rfl (fun w6 h6 => Stp.alloc inf24 (fun w7 h7 s7 r7 => ⟨h7, ?_⟩))  -- 5.2: t5 := alloc
      refine ER.bar rfl rfl rfl rfl (fun w8 h8 => Stp.store (by kernel_rfl) rfl rfl (r7.ext h8) rfl rfl (fun w9 u9 r9 => ?_))  -- 5.3: tNone := store
      have e9 := ((h6.trans h7).trans h8).upd u9 h6.size
      refine ER.nil (fun w10 h10 => ?_)
      refine AQ.then ?_
      -- region 6  room.go:102
      refine EC.region (fun i => [1, 1, 0, 1, 1].getD i 0) [0, 1, 2, 3, 4] rfl ?_
      refine ER.sil rfl rfl rfl rfl (Sil.move rfl) ?_  -- 6.0: t14 := move
      refine ER.sil rfl rfl rfl rfl (Sil.fieldAddr Try.underlying24 rfl inf3 rfl) ?_  -- 6.1: t15 := fieldAddr
      refine ER.ex rfl rfl rfl rfl (Exa.load flat3 rfl ((r9.ext h10).cell rfl)) ?_  -- 6.2: t16 := load
      refine ER.sil rfl rfl rfl rfl (Sil.add rfl rfl) ?_  -- 6.3: t17 := binOp
      refine ER.sil rfl rfl rfl rfl (Sil.assign rfl) ?_  -- 6.4: t3 := assign
      refine ER.nil (fun w11 h11 => ?_)
      refine AQ.blockNormal ?_
      refine AQ.then ?_
      -- region 7  room.go:101
      refine EC.region (fun i => [1, 1].getD i 0) [0, 1] rfl ?_
      refine ER.sil rfl rfl rfl rfl (Sil.add rfl rfl) ?_  -- 7.0: t18 := binOp
      refine ER.sil rfl rfl rfl rfl (Sil.move rfl) ?_  -- 7.1: t10 := move
      refine ER.nil (fun w12 h12 => ?_)
      have e1 := sumW_succ l k hlt
      unfold w64 at e1
      refine AQ.round (k + 1) [0, 3, 8, 9, 10] (by rw [e1, ← wrap_succ hlt hm]; rfl) ⟨(((((hE.trans h5).trans e9).trans h10).trans h11).trans h12), hlt⟩ (by omega)
    ·
      refine EC.exit ?_
      refine AQ.thenExit ?_
      refine AQ.thenExit ?_
      refine AQ.blockHit ?_
      refine AQ.then ?_
      refine EC.seq ?_
      -- region 8  room.go:105
      refine EC.region (fun i => [1, 1].getD i 0) [0, 1] rfl ?_
      refine ER.sil rfl rfl rfl rfl (Sil.move rfl) ?_  -- 8.0: t19 := move
      refine ER.sil rfl rfl rfl rfl (Sil.assign rfl) ?_  -- 8.1: t2 := assign
      refine ER.nil (fun w13 h13 => ?_)
      refine AQ.then ?_
      refine EC.ret ?_
      refine AQ.ret1 Try.results18 rfl ?_
      have hge : k = l.length := by have : ¬ ((k : Int) < l.length) := (by simpa using hb1); omega
      subst hge
      exact ⟨by rw [List.take_length, totB, if_pos hb0], ((hE.trans h5).trans h13)⟩
  ·
    refine EC.skip ?_
    refine AQ.then ?_
    refine EC.seq ?_
    -- region 8  room.go:105
    refine EC.region (fun i => [1, 1].getD i 0) [0, 1] rfl ?_
    refine ER.sil rfl rfl rfl rfl (Sil.move rfl) ?_  -- 8.0: t19 := move
    refine ER.sil rfl rfl rfl rfl (Sil.assign rfl) ?_  -- 8.1: t2 := assign
    refine ER.nil (fun w14 h14 => ?_)
    refine AQ.then ?_
    refine EC.ret ?_
    refine AQ.ret1 Try.results18 rfl ?_
    exact ⟨by rw [totB, if_neg (by rw [hb0]; exact Bool.false_ne_true)], (((h1.trans h2).trans h3).trans h14)⟩

-- linchpin/linchpinref04.Right: parameters ['[]api.Span'] (free 0), results [('ResultVar.tmp', 2)], 51 slots
theorem refRight_any (l : List Sp) (v : Value) (w : World) (hl : Spans w v l) :
    Calls Try.prog 17 [v].toArray w fun e w' => e = .returned (.bool (rightB l)) ∧ Ext w w' := by
  obtain ⟨b0, c0, rfl, hm⟩ := Spans.len hl
  refine calls_of Try.func17 rfl Try.ntmps17 rfl ?_
  refine EC.seq ?_
  -- region 0  ref.go:12
  refine EC.region (fun i => [1].getD i 0) [0] rfl ?_
  refine ER.sil rfl rfl rfl rfl (Sil.assign rfl) ?_  -- 0.0: t2 := assign
  refine ER.nil (fun w1 h1 => ?_)
  refine AQ.then ?_
  refine EC.seq ?_
  refine EC.seq ?_
  -- region 1  ref.go:13
  refine EC.region (fun i => [1].getD i 0) [0] rfl ?_
  refine ER.sil rfl rfl rfl rfl (Sil.assign rfl) ?_  -- 1.0: t3 := assign
  refine ER.nil (fun w2 h2 => ?_)
  refine AQ.then ?_
  refine EC.block ?_
  refine EC.loop (σ := Nat) (fun k => [(0, .slice b0 l.length c0), (3, .int .i64 (k : Int))]) (fun k wr => Ext w wr ∧ k ≤ l.length ∧ ∀ j, j < k → badAt l j = false) (fun k => l.length - k) 0 [0, 3] rfl ?_ (fun k wr hF => ?_)
  · exact ⟨(h1.trans h2), Nat.zero_le _, fun j hj => absurd hj (Nat.not_lt_zero _)⟩
  obtain ⟨hE, hk, hok⟩ := hF
  refine EC.seq ?_
  refine EC.seq ?_
  -- region 2  ref.go:13
  refine EC.region (fun i => [1, 1, 1, 1].getD i 0) [0, 1, 2, 3] rfl ?_
  refine ER.sil rfl rfl rfl rfl (Sil.move rfl) ?_  -- 2.0: t5 := move
  refine ER.sil rfl rfl rfl rfl (Sil.move rfl) ?_  -- 2.1: t6 := move
  refine ER.sil rfl rfl rfl rfl (Sil.len Try.underlying22 rfl) ?_  -- 2.2: t7 := call
  refine ER.sil rfl rfl rfl rfl (Sil.lss rfl rfl) ?_  -- 2.3: t8 := binOp
  refine ER.nil (fun w3 h3 => ?_)
  refine AQ.then ?_
  refine EC.cond rfl (fun hb0 => ?_) (fun hb0 => ?_)  -- cond 0: t8
  ·
    have hlt : k < l.length := by simpa using hb0
    obtain ⟨b, o, rfl, hat⟩ := Spans.has (hl.ext (hE.trans h3)) hlt
    refine EC.skip ?_
    refine AQ.then ?_
    refine EC.seq ?_
    refine EC.block ?_
    refine EC.seq ?_
    -- region 4  ref.go:14
    refine EC.region (fun i => [1, 1, 1, 0, 0, 1].getD i 0) [0, 1, 2, 3, 4, 5] rfl ?_
    refine ER.sil rfl rfl rfl rfl (Sil.move rfl) ?_  -- 4.0: t11 := move
    refine ER.sil rfl rfl rfl rfl (Sil.move rfl) ?_  -- 4.1: t12 := move
    refine ER.sil rfl rfl rfl rfl (Sil.indexAddr Try.underlying22 inf24 rfl rfl (by omega) (by omega)) ?_  -- 4.2: t13 := indexAddr
    refine ER.ex rfl rfl rfl rfl (Exa.loadAgg (vs := spC (gt l k)) agg24 rfl (Spans.at hat hlt)) ?_  -- 4.3: t14 := load
    refine ER.ex rfl rfl rfl rfl (Exa.call fok29 rfl rfl (fun wx hx => (refValid_any (gt l k) wx))) ?_  -- 4.4: t15 := call
    refine ER.sil rfl rfl rfl rfl (Sil.assign rfl) ?_  -- 4.5: t4 := assign
    refine ER.nil (fun w4 h4 => ?_)
    refine AQ.then ?_
    refine EC.seq ?_
    -- region 5  ref.go:15
    refine EC.draw (fun i => [1, 1, 1, 1, 1, 1, 1, 0, 1, 1, 1, 1, 1, 1, 1, 1, 1, 1, 1, 0, 1, 1, 1, 1, 1, 0, 1, 1, 1, 1, 1, 0, 1, 1, 1].getD i 0) [0, 1, 2, 3, 4, 5, 6, 7, 8, 9, 10, 11, 12, 13, 14, 15, 16, 17, 18, 19, 20, 21, 22, 23, 24, 25, 26, 27, 28, 29, 30, 31, 32, 33, 34] (by kernel_rfl) (by kernel_rfl) ?_
    refine ER.sil rfl rfl rfl rfl (Sil.move rfl) ?_  -- 5.0: t16 := move
    refine ER.sil rfl rfl rfl rfl (Sil.not rfl) ?_  -- 5.1: t17 := unOp
    refine ER.sil rfl rfl rfl rfl (Sil.move rfl) ?_  -- 5.2: t18 := move
    refine ER.silG rfl rfl rfl rfl rfl rfl (fun hc => Sil.move rfl) ?_  -- 5.3: t19 := move
    refine ER.silG rfl rfl rfl rfl rfl rfl (fun hc => Sil.move rfl) ?_  -- 5.4: t20 := move
    refine ER.silG rfl rfl rfl rfl rfl rfl (fun hc => Sil.indexAddr Try.underlying22 inf24 (congrArg some (sel_eq hc _)) (congrArg some (sel_eq hc _)) (by omega) (by omega)) ?_  -- 5.5: t21 := indexAddr
    refine ER.silG rfl rfl rfl rfl rfl rfl (fun hc => Sil.fieldAddr Try.underlying24 rfl inf3 (congrArg some (sel_eq hc _))) ?_  -- 5.6: t22 := fieldAddr
    refine ER.exG rfl rfl rfl rfl rfl rfl (fun hc => Exa.load flat3 (congrArg some (sel_eq hc _)) (((Spans.at hat hlt).ext h4) 1 _ rfl)) ?_  -- 5.7: t23 := load
    refine ER.silG rfl rfl rfl rfl rfl rfl (fun hc => Sil.eql (congrArg some (sel_eq hc _)) rfl) ?_  -- 5.8: t24 := binOp
    refine ER.sil rfl rfl rfl rfl (Sil.pickOr rfl rfl rfl) ?_  -- 5.9: t25 := pick
    refine ER.sil rfl rfl rfl rfl (Sil.move rfl) ?_  -- 5.10: t26 := move
    refine ER.silG rfl rfl rfl rfl rfl rfl (fun hc => Sil.move rfl) ?_  -- 5.11: t27 := move
    refine ER.silG rfl rfl rfl rfl rfl rfl (fun hc => Sil.gtr (congrArg some (sel_eq hc _)) rfl) ?_  -- 5.12: t28 := binOp
    refine ER.silG rfl rfl rfl rfl rfl rfl (fun hc => Sil.move (congrArg some (sel_eq hc _))) ?_  -- 5.13: t29 := move
    refine ER.silGG rfl rfl rfl rfl rfl rfl (fun hp hc => Sil.move rfl) ?_  -- 5.14: t30 := move
    refine ER.silGG rfl rfl rfl rfl rfl rfl (fun hp hc => Sil.move rfl) ?_  -- 5.15: t31 := move
    refine ER.silGG rfl rfl rfl rfl rfl rfl (fun hp hc => Sil.sub (congrArg some (sel_2 hp hc _)) rfl) ?_  -- 5.16: t32 := binOp
    refine ER.silGG rfl rfl rfl rfl rfl rfl (fun hp hc => Sil.indexAddr Try.underlying22 inf24 (congrArg some (sel_2 hp hc _)) (congrArg some (sel_2 hp hc _)) ((by have h0 : (0 : Int) < k := (by simpa using hc); rw [wrap_pred hk hm (by omega)]; omega)) ((by have h0 : (0 : Int) < k := (by simpa using hc); rw [wrap_pred hk hm (by omega)]; omega))) ?_  -- 5.17: t33 := indexAddr
    refine ER.silGG rfl rfl rfl rfl rfl rfl (fun hp hc => Sil.fieldAddr Try.underlying24 rfl inf3 (congrArg some (sel_2 hp hc _))) ?_  -- 5.18: t34 := fieldAddr
    refine ER.exGG rfl rfl rfl rfl rfl rfl (fun hp hc => Exa.load flat3 (congrArg some (sel_2 hp hc _)) ((by have h0 : (0 : Int) < k := (by simpa using hc); rw [wrap_pred hk hm (by omega)]; exact (((Spans.at hat (by omega)).ext h4) 0 _ rfl)))) ?_  -- 5.19: t35 := load
    refine ER.silGG rfl rfl rfl rfl rfl rfl (fun hp hc => Sil.move rfl) ?_  -- 5.20: t36 := move
    refine ER.silGG rfl rfl rfl rfl rfl rfl (fun hp hc => Sil.move rfl) ?_  -- 5.21: t37 := move
    refine ER.silGG rfl rfl rfl rfl rfl rfl (fun hp hc => Sil.sub (congrArg some (sel_2 hp hc _)) rfl) ?_  -- 5.22: t38 := binOp
    refine ER.silGG rfl rfl rfl rfl rfl rfl (fun hp hc => Sil.indexAddr Try.underlying22 inf24 (congrArg some (sel_2 hp hc _)) (congrArg some (sel_2 hp hc _)) ((by have h0 : (0 : Int) < k := (by simpa using hc); rw [wrap_pred hk hm (by omega)]; omega)) ((by have h0 : (0 : Int) < k := (by simpa using hc); rw [wrap_pred hk hm (by omega)]; omega))) ?_  -- 5.23: t39 := indexAddr
    refine ER.silGG rfl rfl rfl rfl rfl rfl (fun hp hc => Sil.fieldAddr Try.underlying24 rfl inf3 (congrArg some (sel_2 hp hc _))) ?_  -- 5.24: t40 := fieldAddr
    refine ER.exGG rfl rfl rfl rfl rfl rfl (fun hp hc => Exa.load flat3 (congrArg some (sel_2 hp hc _)) ((by have h0 : (0 : Int) < k := (by simpa using hc); rw [wrap_pred hk hm (by omega)]; exact (((Spans.at hat (by omega)).ext h4) 1 _ rfl)))) ?_  -- 5.25: t41 := load
    refine ER.silGG rfl rfl rfl rfl rfl rfl (fun hp hc => Sil.add (congrArg some (sel_2 hp hc _)) (congrArg some (sel_2 hp hc _))) ?_  -- 5.26: t42 := binOp
    refine ER.silGG rfl rfl rfl rfl rfl rfl (fun hp hc => Sil.move rfl) ?_  -- 5.27: t43 := move
    refine ER.silGG rfl rfl rfl rfl rfl rfl (fun hp hc => Sil.move rfl) ?_  -- 5.28: t44 := move
    refine ER.silGG rfl rfl rfl rfl rfl rfl (fun hp hc => Sil.indexAddr Try.underlying22 inf24 (congrArg some (sel_2 hp hc _)) (congrArg some (sel_2 hp hc _)) (by omega) (by omega)) ?_  -- 5.29: t45 := indexAddr
    refine ER.silGG rfl rfl rfl rfl rfl rfl (fun hp hc => Sil.fieldAddr Try.underlying24 rfl inf3 (congrArg some (sel_2 hp hc _))) ?_  -- 5.30: t46 := fieldAddr
    refine ER.exGG rfl rfl rfl rfl rfl rfl (fun hp hc => Exa.load flat3 (congrArg some (sel_2 hp hc _)) (((Spans.at hat hlt).ext h4) 0 _ rfl)) ?_  -- 5.31: t47 := load
    refine ER.silGG rfl rfl rfl rfl rfl rfl (fun hp hc => Sil.geq (congrArg some (sel_2 hp hc _)) (congrArg some (sel_2 hp hc _))) ?_  -- 5.32: t48 := binOp
    refine ER.silG rfl rfl rfl rfl rfl rfl (fun hc => Sil.pickAnd (congrArg some (sel_eq hc _)) (congrArg some (sel_in hc _ _)) rfl) ?_  -- 5.33: t49 := pick
    refine ER.sil rfl rfl rfl rfl (Sil.pickOr rfl rfl rfl) ?_  -- 5.34: t50 := pick
    refine ER.nil (fun w5 h5 => ?_)
    refine AQ.then ?_
    refine EC.cond rfl (fun hb1 => ?_) (fun hb1 => ?_)  -- cond 1: t50
    ·
      refine EC.seq ?_
      -- region 6  ref.go:16
      refine EC.region (fun i => [1].getD i 0) [0] rfl ?_
      refine ER.sil rfl rfl rfl rfl (Sil.assign rfl) ?_  -- 6.0: t2 := assign
      refine ER.nil (fun w6 h6 => ?_)
      refine AQ.then ?_
      refine EC.ret ?_
      refine AQ.blockRet ?_
      refine AQ.thenRet ?_
      refine AQ.thenRet ?_
      refine AQ.blockRet ?_
      refine AQ.thenRet ?_
      refine AQ.ret1 Try.results17 rfl ?_
      exact ⟨by rw [rightB_false hlt hb1], ((((hE.trans h3).trans h4).trans h5).trans h6)⟩
    ·
      refine EC.skip ?_
      refine AQ.blockNormal ?_
      refine AQ.then ?_
      -- region 3  ref.go:13
      refine EC.region (fun i => [1, 1, 1].getD i 0) [0, 1, 2] rfl ?_
      refine ER.sil rfl rfl rfl rfl (Sil.move rfl) ?_  -- 3.0: t9 := move
      refine ER.sil rfl rfl rfl rfl (Sil.add rfl rfl) ?_  -- 3.1: t10 := binOp
      refine ER.sil rfl rfl rfl rfl (Sil.assign rfl) ?_  -- 3.2: t3 := assign
      refine ER.nil (fun w7 h7 => ?_)
      refine AQ.round (k + 1) [0, 3] (by rw [← wrap_succ hlt hm]; rfl) ⟨((((hE.trans h3).trans h4).trans h5).trans h7), hlt, fun j hj => ?_⟩ (by omega)
      rcases Nat.lt_or_eq_of_le (Nat.le_of_lt_succ hj) with hj | rfl
      · exact hok j hj
      · exact hb1
  ·
    refine EC.exit ?_
    refine AQ.thenExit ?_
    refine AQ.thenExit ?_
    refine AQ.blockHit ?_
    refine AQ.then ?_
    refine EC.seq ?_
    -- region 7  ref.go:19
    refine EC.region (fun i => [1].getD i 0) [0] rfl ?_
    refine ER.sil rfl rfl rfl rfl (Sil.assign rfl) ?_  -- 7.0: t2 := assign
    refine ER.nil (fun w8 h8 => ?_)
    refine AQ.then ?_
    refine EC.ret ?_
    refine AQ.ret1 Try.results17 rfl ?_
    have hge : k = l.length := by have : ¬ ((k : Int) < l.length) := (by simpa using hb0); omega
    subst hge
    exact ⟨by rw [rightB_true hok], ((hE.trans h3).trans h8)⟩

-- linchpin/linchpinref04.Total: parameters ['[]api.Span'] (free 0), results [('ResultVar.tmp', 2)], 25 slots
theorem refTotal_any (l : List Sp) (v : Value) (w : World) (hl : Spans w v l) :
    Calls Try.prog 19 [v].toArray w fun e w' => e = .returned (.int .i64 (totB l)) ∧ Ext w w' := by
  obtain ⟨b0, c0, rfl, hm⟩ := Spans.len hl
  refine calls_of Try.func19 rfl Try.ntmps19 rfl ?_
  refine EC.seq ?_
  -- region 0  ref.go:92
  refine EC.region (fun i => [1].getD i 0) [0] rfl ?_
  refine ER.sil rfl rfl rfl rfl (Sil.assign rfl) ?_  -- 0.0: t2 := assign
  refine ER.nil (fun w1 h1 => ?_)
  refine AQ.then ?_
  refine EC.seq ?_
  -- region 1  ref.go:93
  refine EC.region (fun i => [1, 0, 1].getD i 0) [0, 1, 2] rfl ?_
  refine ER.sil rfl rfl rfl rfl (Sil.move rfl) ?_  -- 1.0: t6 := move
  refine ER.ex rfl rfl rfl rfl (Exa.call fok17 rfl rfl (fun wx hx => (refRight_any l _ wx (hl.ext (h1.trans hx))))) ?_  -- 1.1: t7 := call
  refine ER.sil rfl rfl rfl rfl (Sil.assign rfl) ?_  -- 1.2: t3 := assign
  refine ER.nil (fun w2 h2 => ?_)
  refine AQ.then ?_
  refine EC.seq ?_
  -- region 2  ref.go:94
  refine EC.region (fun i => [1].getD i 0) [0] rfl ?_
  refine ER.sil rfl rfl rfl rfl (Sil.assign rfl) ?_  -- 2.0: t4 := assign
  refine ER.nil (fun w3 h3 => ?_)
  refine AQ.then ?_
  refine EC.seq ?_
  refine EC.seq ?_
  -- region 3  ref.go:95
  refine EC.region (fun i => [1].getD i 0) [0] rfl ?_
  refine ER.sil rfl rfl rfl rfl (Sil.assign rfl) ?_  -- 3.0: t5 := assign
  refine ER.nil (fun w4 h4 => ?_)
  refine AQ.then ?_
  refine EC.block ?_
  refine EC.loop (σ := Nat) (fun k => [(0, .slice b0 l.length c0), (3, .bool (rightB l)), (4, .int .i64 (sumW (l.take k))), (5, .int .i64 (k : Int))]) (fun k wr => Ext w wr ∧ k ≤ l.length ∧ (0 < k → rightB l = true)) (fun k => l.length - k) 0 [0, 3, 4, 5] rfl ?_ (fun k wr hF => ?_)
  · exact ⟨(((h1.trans h2).trans h3).trans h4), Nat.zero_le _, fun h => absurd h (Nat.lt_irrefl 0)⟩
  obtain ⟨hE, hk, hz⟩ := hF
  refine EC.seq ?_
  refine EC.seq ?_
  -- region 4  ref.go:95
  refine EC.region (fun i => [1, 1, 1, 1, 1, 1, 1].getD i 0) [0, 1, 2, 3, 4, 5, 6] rfl ?_
  refine ER.sil rfl rfl rfl rfl (Sil.move rfl) ?_  -- 4.0: t8 := move
  refine ER.sil rfl rfl rfl rfl (Sil.move rfl) ?_  -- 4.1: t9 := move
  refine ER.sil rfl rfl rfl rfl (Sil.len Try.underlying22 rfl) ?_  -- 4.2: t10 := call
  refine ER.sil rfl rfl rfl rfl (Sil.lss rfl rfl) ?_  -- 4.3: t11 := binOp
  refine ER.sil rfl rfl rfl rfl (Sil.move rfl) ?_  -- 4.4: t12 := move
  refine ER.silG rfl rfl rfl rfl rfl rfl (fun hc => Sil.move rfl) ?_  -- 4.5: t13 := move
  refine ER.sil rfl rfl rfl rfl (Sil.pickAnd rfl rfl rfl) ?_  -- 4.6: t14 := pick
  refine ER.nil (fun w5 h5 => ?_)
  refine AQ.then ?_
  refine EC.cond rfl (fun hb0 => ?_) (fun hb0 => ?_)  -- cond 0: t14
  ·
    have hlt : k < l.length := by have := (Bool.and_eq_true _ _ ▸ hb0 : _ ∧ _).1; simpa using this
    obtain ⟨b, o, rfl, hat⟩ := Spans.has (hl.ext (hE.trans h5)) hlt
    refine EC.skip ?_
    refine AQ.then ?_
    refine EC.seq ?_
    refine EC.block ?_
    -- region 6  ref.go:96
    refine EC.region (fun i => [1, 1, 1, 1, 1, 0, 1, 1].getD i 0) [0, 1, 2, 3, 4, 5, 6, 7] rfl ?_
    refine ER.sil rfl rfl rfl rfl (Sil.move rfl) ?_  -- 6.0: t17 := move
    refine ER.sil rfl rfl rfl rfl (Sil.move rfl) ?_  -- 6.1: t18 := move
    refine ER.sil rfl rfl rfl rfl (Sil.move rfl) ?_  -- 6.2: t19 := move
    refine ER.sil rfl rfl rfl rfl (Sil.indexAddr Try.underlying22 inf24 rfl rfl (by omega) (by omega)) ?_  -- 6.3: t20 := indexAddr
    refine ER.sil rfl rfl rfl rfl (Sil.fieldAddr Try.underlying24 rfl inf3 rfl) ?_  -- 6.4: t21 := fieldAddr
    refine ER.ex rfl rfl rfl rfl (Exa.load flat3 rfl ((Spans.at hat hlt) 1 _ rfl)) ?_  -- 6.5: t22 := load
    refine ER.sil rfl rfl rfl rfl (Sil.add rfl rfl) ?_  -- 6.6: t23 := binOp
    refine ER.sil rfl rfl rfl rfl (Sil.assign rfl) ?_  -- 6.7: t4 := assign
    refine ER.nil (fun w6 h6 => ?_)
    refine AQ.blockNormal ?_
    refine AQ.then ?_
    -- region 5  ref.go:95
    refine EC.region (fun i => [1, 1, 1].getD i 0) [0, 1, 2] rfl ?_
    refine ER.sil rfl rfl rfl rfl (Sil.move rfl) ?_  -- 5.0: t15 := move
    refine ER.sil rfl rfl rfl rfl (Sil.add rfl rfl) ?_  -- 5.1: t16 := binOp
    refine ER.sil rfl rfl rfl rfl (Sil.assign rfl) ?_  -- 5.2: t5 := assign
    refine ER.nil (fun w7 h7 => ?_)
    have e1 := sumW_succ l k hlt
    unfold w64 at e1
    refine AQ.round (k + 1) [0, 3, 4, 5] (by rw [e1, ← wrap_succ hlt hm]; rfl) ⟨(((hE.trans h5).trans h6).trans h7), hlt, fun _ => (Bool.and_eq_true _ _ ▸ hb0 : _ ∧ _).2⟩ (by omega)
  ·
    refine EC.exit ?_
    refine AQ.thenExit ?_
    refine AQ.thenExit ?_
    refine AQ.blockHit ?_
    refine AQ.then ?_
    refine EC.seq ?_
    -- region 7  ref.go:98
    refine EC.region (fun i => [1, 1].getD i 0) [0, 1] rfl ?_
    refine ER.sil rfl rfl rfl rfl (Sil.move rfl) ?_  -- 7.0: t24 := move
    refine ER.sil rfl rfl rfl rfl (Sil.assign rfl) ?_  -- 7.1: t2 := assign
    refine ER.nil (fun w8 h8 => ?_)
    refine AQ.then ?_
    refine EC.ret ?_
    refine AQ.ret1 Try.results19 rfl ?_
    have hr : (k = 0 ∧ rightB l = false) ∨ (k = l.length ∧ rightB l = true) := by
      rcases Bool.and_eq_false_iff.1 hb0 with h | h
      · have h' : ¬ ((k : Int) < l.length) := by simpa using h
        have hkl : k = l.length := by omega
        cases hR : rightB l with
        | true => exact .inr ⟨hkl, rfl⟩
        | false =>
          have : ¬ 0 < k := fun h => by rw [hz h] at hR; cases hR
          exact .inl ⟨by omega, rfl⟩
      · have : ¬ 0 < k := fun h' => by rw [hz h'] at h; cases h
        exact .inl ⟨by omega, h⟩
    exact ⟨by rcases hr with ⟨h1, h2⟩ | ⟨h1, h2⟩ <;> simp [totB, h1, h2, sumW], ((hE.trans h5).trans h8)⟩

-- linchpin/linchpinref04.In: parameters ['[]api.Span', 'int'] (free 0), results [('ResultVar.tmp', 4)], 34 slots
theorem refIn_any (l : List Sp) (v : Value) (w : World) (hl : Spans w v l) (a : Int) :
    Calls Try.prog 37 [v, .int .i64 a].toArray w fun e w' => e = .returned (.bool (inB l a)) ∧ Ext w w' := by
  obtain ⟨b0, c0, rfl, hm⟩ := Spans.len hl
  refine calls_of Try.func37 rfl Try.ntmps37 rfl ?_
  refine EC.seq ?_
  -- region 0  ref.go:23
  refine EC.region (fun i => [1].getD i 0) [0] rfl ?_
  refine ER.sil rfl rfl rfl rfl (Sil.assign rfl) ?_  -- 0.0: t4 := assign
  refine ER.nil (fun w1 h1 => ?_)
  refine AQ.then ?_
  refine EC.seq ?_
  refine EC.seq ?_
  -- region 1  ref.go:24
  refine EC.region (fun i => [1].getD i 0) [0] rfl ?_
  refine ER.sil rfl rfl rfl rfl (Sil.assign rfl) ?_  -- 1.0: t5 := assign
  refine ER.nil (fun w2 h2 => ?_)
  refine AQ.then ?_
  refine EC.block ?_
  refine EC.loop (σ := Nat) (fun k => [(0, .slice b0 l.length c0), (1, .int .i64 a), (5, .int .i64 (k : Int))]) (fun k wr => Ext w wr ∧ k ≤ l.length ∧ ∀ j, j < k → inS a (gt l j) = false) (fun k => l.length - k) 0 [0, 1, 5] rfl ?_ (fun k wr hF => ?_)
  · exact ⟨(h1.trans h2), Nat.zero_le _, fun j hj => absurd hj (Nat.not_lt_zero _)⟩
  obtain ⟨hE, hk, hok⟩ := hF
  refine EC.seq ?_
  refine EC.seq ?_
  -- region 2  ref.go:24
  refine EC.region (fun i => [1, 1, 1, 1].getD i 0) [0, 1, 2, 3] rfl ?_
  refine ER.sil rfl rfl rfl rfl (Sil.move rfl) ?_  -- 2.0: t6 := move
  refine ER.sil rfl rfl rfl rfl (Sil.move rfl) ?_  -- 2.1: t7 := move
  refine ER.sil rfl rfl rfl rfl (Sil.len Try.underlying22 rfl) ?_  -- 2.2: t8 := call
  refine ER.sil rfl rfl rfl rfl (Sil.lss rfl rfl) ?_  -- 2.3: t9 := binOp
  refine ER.nil (fun w3 h3 => ?_)
  refine AQ.then ?_
  refine EC.cond rfl (fun hb0 => ?_) (fun hb0 => ?_)  -- cond 0: t9
  ·
    have hlt : k < l.length := by simpa using hb0
    obtain ⟨b, o, rfl, hat⟩ := Spans.has (hl.ext (hE.trans h3)) hlt
    refine EC.skip ?_
    refine AQ.then ?_
    refine EC.seq ?_
    refine EC.block ?_
    refine EC.seq ?_
    -- region 4  ref.go:25
    refine EC.draw (fun i => [1, 1, 1, 1, 1, 0, 1, 1, 1, 1, 1, 1, 1, 0, 1, 1, 1, 1, 0, 1, 1, 1].getD i 0) [0, 1, 2, 3, 4, 5, 6, 7, 8, 9, 10, 11, 12, 13, 14, 15, 16, 17, 18, 19, 20, 21] (by kernel_rfl) (by kernel_rfl) ?_
    refine ER.sil rfl rfl rfl rfl (Sil.move rfl) ?_  -- 4.0: t12 := move
    refine ER.sil rfl rfl rfl rfl (Sil.move rfl) ?_  -- 4.1: t13 := move
    refine ER.sil rfl rfl rfl rfl (Sil.move rfl) ?_  -- 4.2: t14 := move
    refine ER.sil rfl rfl rfl rfl (Sil.indexAddr Try.underlying22 inf24 rfl rfl (by omega) (by omega)) ?_  -- 4.3: t15 := indexAddr
    refine ER.sil rfl rfl rfl rfl (Sil.fieldAddr Try.underlying24 rfl inf3 rfl) ?_  -- 4.4: t16 := fieldAddr
    refine ER.ex rfl rfl rfl rfl (Exa.load flat3 rfl ((Spans.at hat hlt) 0 _ rfl)) ?_  -- 4.5: t17 := load
    refine ER.sil rfl rfl rfl rfl (Sil.geq rfl rfl) ?_  -- 4.6: t18 := binOp
    refine ER.sil rfl rfl rfl rfl (Sil.move rfl) ?_  -- 4.7: t19 := move
    refine ER.silG rfl rfl rfl rfl rfl rfl (fun hc => Sil.move rfl) ?_  -- 4.8: t20 := move
    refine ER.silG rfl rfl rfl rfl rfl rfl (fun hc => Sil.move rfl) ?_  -- 4.9: t21 := move
    refine ER.silG rfl rfl rfl rfl rfl rfl (fun hc => Sil.move rfl) ?_  -- 4.10: t22 := move
    refine ER.silG rfl rfl rfl rfl rfl rfl (fun hc => Sil.indexAddr Try.underlying22 inf24 (congrArg some (sel_eq hc _)) (congrArg some (sel_eq hc _)) (by omega) (by omega)) ?_  -- 4.11: t23 := indexAddr
    refine ER.silG rfl rfl rfl rfl rfl rfl (fun hc => Sil.fieldAddr Try.underlying24 rfl inf3 (congrArg some (sel_eq hc _))) ?_  -- 4.12: t24 := fieldAddr
    refine ER.exG rfl rfl rfl rfl rfl rfl (fun hc => Exa.load flat3 (congrArg some (sel_eq hc _)) ((Spans.at hat hlt) 0 _ rfl)) ?_  -- 4.13: t25 := load
    refine ER.silG rfl rfl rfl rfl rfl rfl (fun hc => Sil.move rfl) ?_  -- 4.14: t26 := move
    refine ER.silG rfl rfl rfl rfl rfl rfl (fun hc => Sil.move rfl) ?_  -- 4.15: t27 := move
    refine ER.silG rfl rfl rfl rfl rfl rfl (fun hc => Sil.indexAddr Try.underlying22 inf24 (congrArg some (sel_eq hc _)) (congrArg some (sel_eq hc _)) (by omega) (by omega)) ?_  -- 4.16: t28 := indexAddr
    refine ER.silG rfl rfl rfl rfl rfl rfl (fun hc => Sil.fieldAddr Try.underlying24 rfl inf3 (congrArg some (sel_eq hc _))) ?_  -- 4.17: t29 := fieldAddr
    refine ER.exG rfl rfl rfl rfl rfl rfl (fun hc => Exa.load flat3 (congrArg some (sel_eq hc _)) ((Spans.at hat hlt) 1 _ rfl)) ?_  -- 4.18: t30 := load
    refine ER.silG rfl rfl rfl rfl rfl rfl (fun hc => Sil.add (congrArg some (sel_eq hc _)) (congrArg some (sel_eq hc _))) ?_  -- 4.19: t31 := binOp
    refine ER.silG rfl rfl rfl rfl rfl rfl (fun hc => Sil.lss (congrArg some (sel_eq hc _)) (congrArg some (sel_eq hc _))) ?_  -- 4.20: t32 := binOp
    refine ER.sil rfl rfl rfl rfl (Sil.pickAnd rfl rfl rfl) ?_  -- 4.21: t33 := pick
    refine ER.nil (fun w4 h4 => ?_)
    refine AQ.then ?_
    refine EC.cond rfl (fun hb1 => ?_) (fun hb1 => ?_)  -- cond 1: t33
    ·
      refine EC.seq ?_
      -- region 5  ref.go:26
      refine EC.region (fun i => [1].getD i 0) [0] rfl ?_
      refine ER.sil rfl rfl rfl rfl (Sil.assign rfl) ?_  -- 5.0: t4 := assign
      refine ER.nil (fun w5 h5 => ?_)
      refine AQ.then ?_
      refine EC.ret ?_
      refine AQ.blockRet ?_
      refine AQ.thenRet ?_
      refine AQ.thenRet ?_
      refine AQ.blockRet ?_
      refine AQ.thenRet ?_
      refine AQ.ret1 Try.results37 rfl ?_
      exact ⟨by rw [inB_true hlt hb1], (((hE.trans h3).trans h4).trans h5)⟩
    ·
      refine EC.skip ?_
      refine AQ.blockNormal ?_
      refine AQ.then ?_
      -- region 3  ref.go:24
      refine EC.region (fun i => [1, 1, 1].getD i 0) [0, 1, 2] rfl ?_
      refine ER.sil rfl rfl rfl rfl (Sil.move rfl) ?_  -- 3.0: t10 := move
      refine ER.sil rfl rfl rfl rfl (Sil.add rfl rfl) ?_  -- 3.1: t11 := binOp
      refine ER.sil rfl rfl rfl rfl (Sil.assign rfl) ?_  -- 3.2: t5 := assign
      refine ER.nil (fun w6 h6 => ?_)
      refine AQ.round (k + 1) [0, 1, 5] (by rw [← wrap_succ hlt hm]; rfl) ⟨(((hE.trans h3).trans h4).trans h6), hlt, fun j hj => ?_⟩ (by omega)
      rcases Nat.lt_or_eq_of_le (Nat.le_of_lt_succ hj) with hj | rfl
      · exact hok j hj
      · exact hb1
  ·
    refine EC.exit ?_
    refine AQ.thenExit ?_
    refine AQ.thenExit ?_
    refine AQ.blockHit ?_
    refine AQ.then ?_
    refine EC.seq ?_
    -- region 6  ref.go:29
    refine EC.region (fun i => [1].getD i 0) [0] rfl ?_
    refine ER.sil rfl rfl rfl rfl (Sil.assign rfl) ?_  -- 6.0: t4 := assign
    refine ER.nil (fun w7 h7 => ?_)
    refine AQ.then ?_
    refine EC.ret ?_
    refine AQ.ret1 Try.results37 rfl ?_
    have hge : k = l.length := by have : ¬ ((k : Int) < l.length) := (by simpa using hb0); omega
    subst hge
    exact ⟨by rw [inB_false hok], ((hE.trans h3).trans h7)⟩

-- linchpin/linchpinref04.Same: parameters ['[]api.Span', '[]api.Span'] (free 0), results [('ResultVar.tmp', 4)], 26 slots
theorem refSame_any (l r : List Sp) (v u : Value) (w : World) (hl : Spans w v l) (hr : Spans w u r) :
    Calls Try.prog 11 [v, u].toArray w fun e w' => e = .returned (.bool (decide (l = r))) ∧ Ext w w' := by
  obtain ⟨b0, c0, rfl, hm⟩ := Spans.len hl
  obtain ⟨b1, c1, rfl, hm1⟩ := Spans.len hr
  refine calls_of Try.func11 rfl Try.ntmps11 rfl ?_
  refine EC.seq ?_
  -- region 0  ref.go:134
  refine EC.region (fun i => [1].getD i 0) [0] rfl ?_
  refine ER.sil rfl rfl rfl rfl (Sil.assign rfl) ?_  -- 0.0: t4 := assign
  refine ER.nil (fun w1 h1 => ?_)
  refine AQ.then ?_
  refine EC.seq ?_
  refine EC.seq ?_
  -- region 1  ref.go:135
  refine EC.region (fun i => [1, 1, 1, 1, 1].getD i 0) [0, 1, 2, 3, 4] rfl ?_
  refine ER.sil rfl rfl rfl rfl (Sil.move rfl) ?_  -- 1.0: t6 := move
  refine ER.sil rfl rfl rfl rfl (Sil.len Try.underlying22 rfl) ?_  -- 1.1: t7 := call
  refine ER.sil rfl rfl rfl rfl (Sil.move rfl) ?_  -- 1.2: t8 := move
  refine ER.sil rfl rfl rfl rfl (Sil.len Try.underlying22 rfl) ?_  -- 1.3: t9 := call
  refine ER.sil rfl rfl rfl rfl (Sil.neq rfl rfl) ?_  -- 1.4: t10 := binOp
  refine ER.nil (fun w2 h2 => ?_)
  refine AQ.then ?_
  refine EC.cond rfl (fun hb0 => ?_) (fun hb0 => ?_)  -- cond 0: t10
  ·
    have hne : l ≠ r := by rintro rfl; simp at hb0
    refine EC.seq ?_
    -- region 2  ref.go:136
    refine EC.region (fun i => [1].getD i 0) [0] rfl ?_
    refine ER.sil rfl rfl rfl rfl (Sil.assign rfl) ?_  -- 2.0: t4 := assign
    refine ER.nil (fun w3 h3 => ?_)
    refine AQ.then ?_
    refine EC.ret ?_
    refine AQ.thenRet ?_
    refine AQ.ret1 Try.results11 rfl ?_
    exact ⟨by rw [decide_eq_false hne], ((h1.trans h2).trans h3)⟩
  ·
    have hlr : l.length = r.length := by have : ((l.length : Int) != r.length) = false := hb0; simp at this; omega
    refine EC.skip ?_
    refine AQ.then ?_
    refine EC.seq ?_
    refine EC.seq ?_
    -- region 3  ref.go:138
    refine EC.region (fun i => [1].getD i 0) [0] rfl ?_
    refine ER.sil rfl rfl rfl rfl (Sil.assign rfl) ?_  -- 3.0: t5 := assign
    refine ER.nil (fun w4 h4 => ?_)
    refine AQ.then ?_
    refine EC.block ?_
    refine EC.loop (σ := Nat) (fun k => [(0, .slice b0 l.length c0), (1, .slice b1 r.length c1), (5, .int .i64 (k : Int))]) (fun k wr => Ext w wr ∧ k ≤ l.length ∧ ∀ j, j < k → gt l j = gt r j) (fun k => l.length - k) 0 [0, 1, 5] rfl ?_ (fun k wr hF => ?_)
    · exact ⟨((h1.trans h2).trans h4), Nat.zero_le _, fun j hj => absurd hj (Nat.not_lt_zero _)⟩
    obtain ⟨hE, hk, hok⟩ := hF
    refine EC.seq ?_
    refine EC.seq ?_
    -- region 4  ref.go:138
    refine EC.region (fun i => [1, 1, 1, 1].getD i 0) [0, 1, 2, 3] rfl ?_
    refine ER.sil rfl rfl rfl rfl (Sil.move rfl) ?_  -- 4.0: t11 := move
    refine ER.sil rfl rfl rfl rfl (Sil.move rfl) ?_  -- 4.1: t12 := move
    refine ER.sil rfl rfl rfl rfl (Sil.len Try.underlying22 rfl) ?_  -- 4.2: t13 := call
    refine ER.sil rfl rfl rfl rfl (Sil.lss rfl rfl) ?_  -- 4.3: t14 := binOp
    refine ER.nil (fun w5 h5 => ?_)
    refine AQ.then ?_
    refine EC.cond rfl (fun hb1 => ?_) (fun hb1 => ?_)  -- cond 1: t14
    ·
      have hlt : k < l.length := by simpa using hb1
      obtain ⟨b, o, rfl, hat⟩ := Spans.has (hl.ext (hE.trans h5)) hlt
      obtain ⟨b1, o1, rfl, hat1⟩ := Spans.has (hr.ext (hE.trans h5)) (show k < r.length by omega)
      refine EC.skip ?_
      refine AQ.then ?_
      refine EC.seq ?_
      refine EC.block ?_
      refine EC.seq ?_
      -- region 6  ref.go:139
      refine EC.draw (fun i => [1, 1, 1, 0, 1, 1, 1, 0, 1].getD i 0) [0, 1, 2, 3, 4, 5, 6, 7, 8] (by kernel_rfl) (by kernel_rfl) ?_
      refine ER.sil rfl rfl rfl rfl (Sil.move rfl) ?_  -- 6.0: t17 := move
      refine ER.sil rfl rfl rfl rfl (Sil.move rfl) ?_  -- 6.1: t18 := move
      refine ER.sil rfl rfl rfl rfl (Sil.indexAddr Try.underlying22 inf24 rfl rfl (by omega) (by omega)) ?_  -- 6.2: t19 := indexAddr
      refine ER.ex rfl rfl rfl rfl (Exa.loadAgg (vs := spC (gt l k)) agg24 rfl (Spans.at hat hlt)) ?_  -- 6.3: t20 := load
      refine ER.sil rfl rfl rfl rfl (Sil.move rfl) ?_  -- 6.4: t21 := move
      refine ER.sil rfl rfl rfl rfl (Sil.move rfl) ?_  -- 6.5: t22 := move
      refine ER.sil rfl rfl rfl rfl (Sil.indexAddr Try.underlying22 inf24 rfl rfl (by omega) (by omega)) ?_  -- 6.6: t23 := indexAddr
      refine ER.ex rfl rfl rfl rfl (Exa.loadAgg (vs := spC (gt r k)) agg24 rfl (Spans.at hat1 (by omega))) ?_  -- 6.7: t24 := load
      refine ER.sil rfl rfl rfl rfl (Sil.tneq (fun wy => spNeq _ _ (gt l k) (gt r k) wy) rfl rfl) ?_  -- 6.8: t25 := binOp
      refine ER.nil (fun w6 h6 => ?_)
      refine AQ.then ?_
      refine EC.cond rfl (fun hb2 => ?_) (fun hb2 => ?_)  -- cond 2: t25
      ·
        refine EC.seq ?_
        -- region 7  ref.go:140
        refine EC.region (fun i => [1].getD i 0) [0] rfl ?_
        refine ER.sil rfl rfl rfl rfl (Sil.assign rfl) ?_  -- 7.0: t4 := assign
        refine ER.nil (fun w7 h7 => ?_)
        refine AQ.then ?_
        refine EC.ret ?_
        refine AQ.blockRet ?_
        refine AQ.thenRet ?_
        refine AQ.thenRet ?_
        refine AQ.blockRet ?_
        refine AQ.thenRet ?_
        refine AQ.ret1 Try.results11 rfl ?_
        exact ⟨by rw [decide_eq_false (fun e => neS_true hb2 (by rw [e]))], (((hE.trans h5).trans h6).trans h7)⟩
      ·
        refine EC.skip ?_
        refine AQ.blockNormal ?_
        refine AQ.then ?_
        -- region 5  ref.go:138
        refine EC.region (fun i => [1, 1, 1].getD i 0) [0, 1, 2] rfl ?_
        refine ER.sil rfl rfl rfl rfl (Sil.move rfl) ?_  -- 5.0: t15 := move
        refine ER.sil rfl rfl rfl rfl (Sil.add rfl rfl) ?_  -- 5.1: t16 := binOp
        refine ER.sil rfl rfl rfl rfl (Sil.assign rfl) ?_  -- 5.2: t5 := assign
        refine ER.nil (fun w8 h8 => ?_)
        refine AQ.round (k + 1) [0, 1, 5] (by rw [← wrap_succ hlt hm]; rfl) ⟨(((hE.trans h5).trans h6).trans h8), hlt, fun j hj => ?_⟩ (by omega)
        rcases Nat.lt_or_eq_of_le (Nat.le_of_lt_succ hj) with hj | rfl
        · exact hok j hj
        · exact neS_false hb2
    ·
      refine EC.exit ?_
      refine AQ.thenExit ?_
      refine AQ.thenExit ?_
      refine AQ.blockHit ?_
      refine AQ.then ?_
      refine EC.seq ?_
      -- region 8  ref.go:143
      refine EC.region (fun i => [1].getD i 0) [0] rfl ?_
      refine ER.sil rfl rfl rfl rfl (Sil.assign rfl) ?_  -- 8.0: t4 := assign
      refine ER.nil (fun w9 h9 => ?_)
      refine AQ.then ?_
      refine EC.ret ?_
      refine AQ.ret1 Try.results11 rfl ?_
      have hge : k = l.length := by have : ¬ ((k : Int) < l.length) := (by simpa using hb1); omega
      subst hge
      exact ⟨by rw [decide_eq_true (eq_of_gt hlr hok)], ((hE.trans h5).trans h9)⟩

end Go.Proofs.Ytnnmeipmkfbpdaa
