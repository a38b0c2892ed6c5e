/- Room: the closures, Has and Meets. -/
import Derived.Test.YtnnmeipmkfbpdaaW3
namespace Go.Proofs.Ytnnmeipmkfbpdaa
open Go.RowKit Go.XK Go.RoomLaw

-- linchpin/room.Has$1: parameters ['api.Span'] (free 1), results [('ResultVar.tmp', 3)], 16 slots
theorem hasC_any (x s : Sp) (b : Nat) (w : World) (hb : Row w b 24 (spC s)) :
    Calls Try.prog 33 [spV x, .pointer (some ⟨b, 0, none⟩)].toArray w fun e w' => e = .returned (.bool (hasP s x)) ∧ Ext w w' := by
  refine calls_of Try.func33 rfl Try.ntmps33 rfl ?_
  refine EC.seq ?_
  -- region 0  room.go:72
  refine EC.region (fun i => [2, 1].getD i 0) [0, 1] rfl ?_
  refine ER.st rfl rfl rfl rfl (fun w1 h1 => Stp.box rfl (fun w2 h2 s2 r2 => ⟨h2, ?_⟩))  -- 0.0: t2 := box
  refine ER.sil rfl rfl rfl rfl (Sil.assign rfl) ?_  -- 0.1: t3 := assign
  refine ER.nil (fun w3 h3 => ?_)
  refine AQ.then ?_
  refine EC.seq ?_
  -- region 1  room.go:72
  refine EC.draw (fun i => [1, 0, 1, 0, 1, 1, 0, 0, 0, 0, 1, 1, 1].getD i 0) [0, 1, 2, 3, 4, 5, 6, 7, 8, 9, 10, 11, 12] (by kernel_rfl) (by kernel_rfl) ?_
  refine ER.sil rfl rfl rfl rfl (Sil.fieldAddr Try.underlying24 rfl inf3 rfl) ?_  -- 1.0: t4 := fieldAddr
  refine ER.ex rfl rfl rfl rfl (Exa.load flat3 rfl ((r2.ext h3).cell rfl)) ?_  -- 1.1: t5 := load
  refine ER.sil rfl rfl rfl rfl (Sil.fieldAddr Try.underlying24 rfl inf3 rfl) ?_  -- 1.2: t6 := fieldAddr
  refine ER.ex rfl rfl rfl rfl (Exa.load flat3 rfl ((hb.ext ((h1.trans h2).trans h3)).cell rfl)) ?_  -- 1.3: t7 := load
  refine ER.sil rfl rfl rfl rfl (Sil.leq rfl rfl) ?_  -- 1.4: t8 := binOp
  refine ER.sil rfl rfl rfl rfl (Sil.move rfl) ?_  -- 1.5: t9 := move
  refine ER.exG rfl rfl rfl rfl rfl rfl (fun hc => Exa.loadAgg (vs := spC s) agg24 rfl ((hb.ext ((h1.trans h2).trans h3)).at)) ?_  -- 1.6: t10 := load
  refine ER.exG rfl rfl rfl rfl rfl rfl (fun hc => Exa.call fok26 rfl (evs_cons (congrArg some (sel_eq hc _)) evs_nil) (fun wx hx => (end_any s wx))) ?_  -- 1.7: t11 := call
  refine ER.exG rfl rfl rfl rfl rfl rfl (fun hc => Exa.loadAgg (vs := spC x) agg24 rfl ((r2.ext h3).at)) ?_  -- 1.8: t12 := load
  refine ER.exG rfl rfl rfl rfl rfl rfl (fun hc => Exa.call fok26 rfl (evs_cons (congrArg some (sel_eq hc _)) evs_nil) (fun wx hx => (end_any x wx))) ?_  -- 1.9: t13 := call
  refine ER.silG rfl rfl rfl rfl rfl rfl (fun hc => Sil.leq (congrArg some (sel_eq hc _)) (congrArg some (sel_eq hc _))) ?_  -- 1.10: t14 := binOp
  refine ER.sil rfl rfl rfl rfl (Sil.pickAnd rfl rfl rfl) ?_  -- 1.11: t15 := pick
  refine ER.sil rfl rfl rfl rfl (Sil.assign rfl) ?_  -- 1.12: t3 := assign
  refine ER.nil (fun w4 h4 => ?_)
  refine AQ.then ?_
  refine EC.ret ?_
  refine AQ.ret1 Try.results33 rfl ?_
  exact ⟨rfl, (((h1.trans h2).trans h3).trans h4)⟩

-- linchpin/room.Meets$1: parameters ['api.Span'] (free 1), results [('ResultVar.tmp', 3)], 15 slots
theorem meetsC_any (x s : Sp) (b : Nat) (w : World) (hb : Row w b 24 (spC s)) :
    Calls Try.prog 34 [spV x, .pointer (some ⟨b, 0, none⟩)].toArray w fun e w' => e = .returned (.bool (meetsP s x)) ∧ Ext w w' := by
  refine calls_of Try.func34 rfl Try.ntmps34 rfl ?_
  refine EC.seq ?_
  -- region 0  room.go:80
  refine EC.region (fun i => [2, 1].getD i 0) [0, 1] rfl ?_
  refine ER.st rfl rfl rfl rfl (fun w1 h1 => Stp.box rfl (fun w2 h2 s2 r2 => ⟨h2, ?_⟩))  -- 0.0: t2 := box
  refine ER.sil rfl rfl rfl rfl (Sil.assign rfl) ?_  -- 0.1: t3 := assign
  refine ER.nil (fun w3 h3 => ?_)
  refine AQ.then ?_
  refine EC.seq ?_
  -- region 1  room.go:80
  refine EC.draw (fun i => [1, 0, 1, 0, 1, 0, 0, 0, 0, 1, 1, 1].getD i 0) [0, 1, 2, 3, 4, 5, 6, 7, 8, 9, 10, 11] (by kernel_rfl) (by kernel_rfl) ?_
  refine ER.sil rfl rfl rfl rfl (Sil.fieldAddr Try.underlying24 rfl inf3 rfl) ?_  -- 1.0: t4 := fieldAddr
  refine ER.ex rfl rfl rfl rfl (Exa.load flat3 rfl ((r2.ext h3).cell rfl)) ?_  -- 1.1: t5 := load
  refine ER.sil rfl rfl rfl rfl (Sil.fieldAddr Try.underlying24 rfl inf3 rfl) ?_  -- 1.2: t6 := fieldAddr
  refine ER.ex rfl rfl rfl rfl (Exa.load flat3 rfl ((hb.ext ((h1.trans h2).trans h3)).cell rfl)) ?_  -- 1.3: t7 := load
  refine ER.sil rfl rfl rfl rfl (Sil.max rfl rfl) ?_  -- 1.4: t8 := call
  refine ER.ex rfl rfl rfl rfl (Exa.loadAgg (vs := spC x) agg24 rfl ((r2.ext h3).at)) ?_  -- 1.5: t9 := load
  refine ER.ex rfl rfl rfl rfl (Exa.call fok26 rfl rfl (fun wx hx => (end_any x wx))) ?_  -- 1.6: t10 := call
  refine ER.ex rfl rfl rfl rfl (Exa.loadAgg (vs := spC s) agg24 rfl ((hb.ext ((h1.trans h2).trans h3)).at)) ?_  -- 1.7: t11 := load
  refine ER.ex rfl rfl rfl rfl (Exa.call fok26 rfl rfl (fun wx hx => (end_any s wx))) ?_  -- 1.8: t12 := call
  refine ER.sil rfl rfl rfl rfl (Sil.min rfl rfl) ?_  -- 1.9: t13 := call
  refine ER.sil rfl rfl rfl rfl (Sil.lss rfl rfl) ?_  -- 1.10: t14 := binOp
  refine ER.sil rfl rfl rfl rfl (Sil.assign rfl) ?_  -- 1.11: t3 := assign
  refine ER.nil (fun w4 h4 => ?_)
  refine AQ.then ?_
  refine EC.ret ?_
  refine AQ.ret1 Try.results34 rfl ?_
  exact ⟨rfl, (((h1.trans h2).trans h3).trans h4)⟩

-- slices.IndexFunc[[]linchpin/api.Span,linchpin/api.Span]: parameters ['[]api.Span', 'func(api.Span) bool'] (free 0), results [('ResultVar.tmp', 4)], 19 slots
theorem indexFunc_any (l : List Sp) (v : Value) (w : World) (hl : Spans w v l) (p : Sp → Bool) (f : Nat) (cs : List Value) (hf : FnOK Try.prog f)
    (hc : ∀ x wx, Ext w wx → Calls Try.prog f ([spV x] ++ cs).toArray wx fun e w' => e = .returned (.bool (p x)) ∧ Ext wx w') :
    Calls Try.prog 38 [v, .func (.func f) #[] cs.toArray].toArray w fun e w' => e = .returned (.int .i64 (idxI p l)) ∧ Ext w w' := by
  obtain ⟨b0, c0, rfl, hm⟩ := Spans.len hl
  refine calls_of Try.func38 rfl Try.ntmps38 rfl ?_
  refine EC.seq ?_
  -- region 0  slices.go:107
  refine EC.region (fun i => [1].getD i 0) [0] rfl ?_
  refine ER.sil rfl rfl rfl rfl (Sil.assign rfl) ?_  -- 0.0: t4 := assign
  refine ER.nil (fun w1 h1 => ?_)
  refine AQ.then ?_
  refine EC.seq ?_
  refine EC.seq ?_
  -- region 1  slices.go:108
  refine EC.region (fun i => [1, 1, 1].getD i 0) [0, 1, 2] rfl ?_
  refine ER.sil rfl rfl rfl rfl (Sil.move rfl) ?_  -- 1.0: t6 := move
  refine ER.sil rfl rfl rfl rfl (Sil.len Try.underlying22 rfl) ?_  -- 1.1: t7 := call
  refine ER.sil rfl rfl rfl rfl (Sil.move rfl) ?_  -- 1.2: t8 := move
  refine ER.nil (fun w2 h2 => ?_)
  refine AQ.then ?_
  refine EC.block ?_
  refine EC.loop (σ := Nat) (fun k => [(0, .slice b0 l.length c0), (1, .func (.func f) #[] cs.toArray), (6, .slice b0 l.length c0), (7, .int .i64 (l.length : Int)), (8, .int .i64 (k : Int))]) (fun k wr => Ext w wr ∧ k ≤ l.length ∧ ∀ j, j < k → p (gt l j) = false) (fun k => l.length - k) 0 [0, 1, 6, 7, 8] rfl ?_ (fun k wr hF => ?_)
  · exact ⟨(h1.trans h2), Nat.zero_le _, fun j hj => absurd hj (Nat.not_lt_zero _)⟩
  obtain ⟨hE, hk, hok⟩ := hF
  refine EC.seq ?_
  -- region 2  slices.go:108
  refine EC.region (fun i => [1].getD i 0) [0] rfl ?_
  refine ER.sil rfl rfl rfl rfl (Sil.lss rfl rfl) ?_  -- 2.0: t9 := binOp
  refine ER.nil (fun w3 h3 => ?_)
  refine AQ.then ?_
  refine EC.seq ?_
  refine EC.cond rfl (fun hb0 => ?_) (fun hb0 => ?_)  -- cond 0: t9
  ·
    have hlt : k < l.length := by simpa using hb0
    obtain ⟨b, o, rfl, hat⟩ := Spans.has (hl.ext (hE.trans h3)) hlt
    refine EC.skip ?_
    refine AQ.then ?_
    refine EC.seq ?_
    refine EC.block ?_
    refine EC.seq ?_
    -- region 3  slices.go:108
    refine EC.region (fun i => [1, 1].getD i 0) [0, 1] rfl ?_
    refine ER.sil rfl rfl rfl rfl (Sil.move rfl) ?_  -- 3.0: t10 := move
    refine ER.sil rfl rfl rfl rfl (Sil.assign rfl) ?_  -- 3.1: t5 := assign
    refine ER.nil (fun w4 h4 => ?_)
    refine AQ.then ?_
    refine EC.seq ?_
    -- region 4  slices.go:109
    
    refine EC.region (fun i => [1, 1, 1, 1, 0, 0].getD i 0) [0, 1, 2, 3, 4, 5] rfl ?_
    refine ER.sil rfl rfl rfl rfl (Sil.move rfl) ?_  -- 4.0: t11 := move
    refine ER.sil rfl rfl rfl rfl (Sil.move rfl) ?_  -- 4.1: t12 := move
    refine ER.sil rfl rfl rfl rfl (Sil.move rfl) ?_  -- 4.2: t13 := move
    refine ER.sil rfl rfl rfl rfl (Sil.indexAddr Try.underlying22 inf24 rfl rfl (by omega) (by omega)) ?_  -- 4.3: t14 := indexAddr
    refine ER.ex rfl rfl rfl rfl (Exa.loadAgg (vs := spC (gt l k)) agg24 rfl ((Spans.at hat hlt).ext h4)) ?_  -- 4.4: t15 := load
    refine ER.ex rfl rfl rfl rfl (Exa.callC hf rfl rfl (fun wx hx => (hc (gt l k) wx (((hE.trans h3).trans h4).trans hx)))) ?_  -- 4.5: t16 := call
    refine ER.nil (fun w5 h5 => ?_)
    refine AQ.then ?_
    refine EC.cond rfl (fun hb1 => ?_) (fun hb1 => ?_)  -- cond 1: t16
    ·
      refine EC.seq ?_
      -- region 5  slices.go:110
      refine EC.region (fun i => [1, 1].getD i 0) [0, 1] rfl ?_
      refine ER.sil rfl rfl rfl rfl (Sil.move rfl) ?_  -- 5.0: t17 := move
      refine ER.sil rfl rfl rfl rfl (Sil.assign rfl) ?_  -- 5.1: t4 := assign
      refine ER.nil (fun w6 h6 => ?_)
      refine AQ.then ?_
      refine EC.ret ?_
      refine AQ.blockRet ?_
      refine AQ.thenRet ?_
      refine AQ.thenRet ?_
      refine AQ.blockRet ?_
      refine AQ.thenRet ?_
      refine AQ.ret1 Try.results38 rfl ?_
      exact ⟨by rw [findIdx_hit hlt hb1 hok], ((((hE.trans h3).trans h4).trans h5).trans h6)⟩
    ·
      refine EC.skip ?_
      refine AQ.blockNormal ?_
      refine AQ.then ?_
      -- region 6  slices.go:108
      refine EC.region (fun i => [1, 1].getD i 0) [0, 1] rfl ?_
      refine ER.sil rfl rfl rfl rfl (Sil.add rfl rfl) ?_  -- 6.0: t18 := binOp
      refine ER.sil rfl rfl rfl rfl (Sil.move rfl) ?_  -- 6.1: t8 := move
      refine ER.nil (fun w7 h7 => ?_)
      refine AQ.round (k + 1) [0, 1, 6, 7, 8] (by rw [← wrap_succ hlt hm]; rfl) ⟨((((hE.trans h3).trans h4).trans h5).trans h7), hlt, fun j hj => ?_⟩ (by omega)
      rcases Nat.lt_or_eq_of_le (Nat.le_of_lt_succ hj) with hj | rfl
      · exact hok j hj
      · exact hb1
  ·
    refine EC.exit ?_
    refine AQ.thenExit ?_
    refine AQ.thenExit ?_
    refine AQ.blockHit ?_
    refine AQ.then ?_
    refine EC.seq ?_
    -- region 7  slices.go:113
    refine EC.region (fun i => [1].getD i 0) [0] rfl ?_
    refine ER.sil rfl rfl rfl rfl (Sil.assign rfl) ?_  -- 7.0: t4 := assign
    refine ER.nil (fun w8 h8 => ?_)
    refine AQ.then ?_
    refine EC.ret ?_
    refine AQ.ret1 Try.results38 rfl ?_
    have hge : k = l.length := by have : ¬ ((k : Int) < l.length) := (by simpa using hb0); omega
    subst hge
    exact ⟨by rw [findIdx_miss hok], ((hE.trans h3).trans h8)⟩

-- slices.ContainsFunc[[]linchpin/api.Span,linchpin/api.Span]: parameters ['[]api.Span', 'func(api.Span) bool'] (free 0), results [('ResultVar.tmp', 4)], 9 slots
theorem containsFunc_any (l : List Sp) (v : Value) (w : World) (hl : Spans w v l) (p : Sp → Bool) (f : Nat) (cs : List Value) (hf : FnOK Try.prog f)
    (hc : ∀ x wx, Ext w wx → Calls Try.prog f ([spV x] ++ cs).toArray wx fun e w' => e = .returned (.bool (p x)) ∧ Ext wx w') :
    Calls Try.prog 32 [v, .func (.func f) #[] cs.toArray].toArray w fun e w' => e = .returned (.bool (l.any p)) ∧ Ext w w' := by
  refine calls_of Try.func32 rfl Try.ntmps32 rfl ?_
  refine EC.seq ?_
  -- region 0  slices.go:124
  refine EC.region (fun i => [1].getD i 0) [0] rfl ?_
  refine ER.sil rfl rfl rfl rfl (Sil.assign rfl) ?_  -- 0.0: t4 := assign
  refine ER.nil (fun w1 h1 => ?_)
  refine AQ.then ?_
  refine EC.seq ?_
  -- region 1  slices.go:125
  refine EC.region (fun i => [1, 1, 0, 1, 1].getD i 0) [0, 1, 2, 3, 4] rfl ?_
  refine ER.sil rfl rfl rfl rfl (Sil.move rfl) ?_  -- 1.0: t5 := move
  refine ER.sil rfl rfl rfl rfl (Sil.move rfl) ?_  -- 1.1: t6 := move
  refine ER.ex rfl rfl rfl rfl (Exa.call fok38 rfl rfl (fun wx hx => (indexFunc_any l _ wx (hl.ext (h1.trans hx)) p f cs hf (fun x wy hy => hc x wy ((h1.trans hx).trans hy))))) ?_  -- 1.2: t7 := call
  refine ER.sil rfl rfl rfl rfl (Sil.geq rfl rfl) ?_  -- 1.3: t8 := binOp
  refine ER.sil rfl rfl rfl rfl (Sil.assign rfl) ?_  -- 1.4: t4 := assign
  refine ER.nil (fun w2 h2 => ?_)
  refine AQ.then ?_
  refine EC.ret ?_
  refine AQ.ret1 Try.results32 rfl ?_
  exact ⟨by rw [← idx_any], (h1.trans h2)⟩

-- linchpin/room.Has: parameters ['[]api.Span', 'api.Span'] (free 0), results [('ResultVar.tmp', 4)], 21 slots
theorem has_any (l : List Sp) (v : Value) (s : Sp) (w : World) (hl : Spans w v l) :
    Calls Try.prog 20 [v, spV s].toArray w fun e w' => e = .returned (.bool (hasB l s)) ∧ Ext w w' := by
  refine calls_of Try.func20 rfl Try.ntmps20 rfl ?_
  refine EC.seq ?_
  -- region 0  room.go:68
  refine EC.region (fun i => [2, 1].getD i 0) [0, 1] rfl ?_
  refine ER.st rfl rfl rfl rfl (fun w1 h1 => Stp.box rfl (fun w2 h2 s2 r2 => ⟨h2, ?_⟩))  -- 0.0: t3 := box
  refine ER.sil rfl rfl rfl rfl (Sil.assign rfl) ?_  -- 0.1: t4 := assign
  refine ER.nil (fun w3 h3 => ?_)
  refine AQ.then ?_
  refine EC.seq ?_
  refine EC.seq ?_
  -- region 1  room.go:69
  refine EC.region (fun i => [1, 0, 1, 1, 0, 0, 1, 1].getD i 0) [0, 1, 2, 3, 4, 5, 6, 7] rfl ?_
  refine ER.sil rfl rfl rfl rfl (Sil.move rfl) ?_  -- 1.0: t5 := move
  refine ER.ex rfl rfl rfl rfl (Exa.call fok16 rfl rfl (fun wx hx => (right_any l _ wx (hl.ext (((h1.trans h2).trans h3).trans hx))))) ?_  -- 1.1: t6 := call
  refine ER.sil rfl rfl rfl rfl (Sil.not rfl) ?_  -- 1.2: t7 := unOp
  refine ER.sil rfl rfl rfl rfl (Sil.move rfl) ?_  -- 1.3: t8 := move
  refine ER.exG rfl rfl rfl rfl rfl rfl (fun hc => Exa.loadAgg (vs := spC s) agg24 rfl ((r2.ext h3).at)) ?_  -- 1.4: t9 := load
  refine ER.exG rfl rfl rfl rfl rfl rfl (fun hc => Exa.call fok27 rfl (evs_cons (congrArg some (sel_eq hc _)) evs_nil) (fun wx hx => (valid_any s wx))) ?_  -- 1.5: t10 := call
  refine ER.silG rfl rfl rfl rfl rfl rfl (fun hc => Sil.not (congrArg some (sel_eq hc _))) ?_  -- 1.6: t11 := unOp
  refine ER.sil rfl rfl rfl rfl (Sil.pickOr rfl rfl rfl) ?_  -- 1.7: t12 := pick
  refine ER.nil (fun w4 h4 => ?_)
  refine AQ.then ?_
  refine EC.cond rfl (fun hb0 => ?_) (fun hb0 => ?_)  -- cond 0: t12
  ·
    refine EC.seq ?_
    -- region 2  room.go:70
    refine EC.region (fun i => [1].getD i 0) [0] rfl ?_
    refine ER.sil rfl rfl rfl rfl (Sil.assign rfl) ?_  -- 2.0: t4 := assign
    refine ER.nil (fun w5 h5 => ?_)
    refine AQ.then ?_
    refine EC.ret ?_
    refine AQ.thenRet ?_
    refine AQ.ret1 Try.results20 rfl ?_
    exact ⟨by rw [hasB, if_pos hb0], ((((h1.trans h2).trans h3).trans h4).trans h5)⟩
  ·
    refine EC.skip ?_
    refine AQ.then ?_
    refine EC.seq ?_
    -- region 3  room.go:72
    refine EC.region (fun i => [1, 0, 1, 1, 1, 1, 0, 1, 1].getD i 0) [0, 1, 2, 3, 4, 5, 6, 7, 8] rfl ?_
    refine ER.sil rfl rfl rfl rfl (Sil.fieldAddr Try.underlying24 rfl inf3 rfl) ?_  -- 3.0: t13 := fieldAddr
    refine ER.ex rfl rfl rfl rfl (Exa.load flat3 rfl ((r2.ext (h3.trans h4)).cell rfl)) ?_  -- 3.1: t14 := load
    refine ER.sil rfl rfl rfl rfl (Sil.eql rfl rfl) ?_  -- 3.2: t15 := binOp
    refine ER.sil rfl rfl rfl rfl (Sil.move rfl) ?_  -- 3.3: t16 := move
    refine ER.silG rfl rfl rfl rfl rfl rfl (fun hc => Sil.move rfl) ?_  -- 3.4: t17 := move
    refine ER.silG rfl rfl rfl rfl rfl rfl (fun hc => Sil.makeFunc rfl rfl) ?_  -- 3.5: t18 := makeFunc
    refine ER.exG rfl rfl rfl rfl rfl rfl (fun hc => Exa.call fok32 rfl (evs_cons (congrArg some (sel_eq hc _)) (evs_cons (congrArg some (sel_eq hc _)) evs_nil)) (fun wx hx => (containsFunc_any l _ wx (hl.ext ((((h1.trans h2).trans h3).trans h4).trans hx)) (hasP s) 33 [.pointer (some ⟨w1.heap.size, 0, none⟩)] fok33 (fun x wy hy => hasC_any x s _ wy ((r2.ext (h3.trans h4)).ext (hx.trans hy)))))) ?_  -- 3.6: t19 := call
    refine ER.sil rfl rfl rfl rfl (Sil.pickOr rfl rfl rfl) ?_  -- 3.7: t20 := pick
    refine ER.sil rfl rfl rfl rfl (Sil.assign rfl) ?_  -- 3.8: t4 := assign
    refine ER.nil (fun w6 h6 => ?_)
    refine AQ.then ?_
    refine EC.ret ?_
    refine AQ.ret1 Try.results20 rfl ?_
    exact ⟨by rw [hasB, if_neg (by rw [hb0]; exact Bool.false_ne_true)], ((((h1.trans h2).trans h3).trans h4).trans h6)⟩

-- linchpin/room.Meets: parameters ['[]api.Span', 'api.Span'] (free 0), results [('ResultVar.tmp', 4)], 16 slots
theorem meets_any (l : List Sp) (v : Value) (s : Sp) (w : World) (hl : Spans w v l) :
    Calls Try.prog 22 [v, spV s].toArray w fun e w' => e = .returned (.bool (meetsB l s)) ∧ Ext w w' := by
  refine calls_of Try.func22 rfl Try.ntmps22 rfl ?_
  refine EC.seq ?_
  -- region 0  room.go:76
  refine EC.region (fun i => [2, 1].getD i 0) [0, 1] rfl ?_
  refine ER.st rfl rfl rfl rfl (fun w1 h1 => Stp.box rfl (fun w2 h2 s2 r2 => ⟨h2, ?_⟩))  -- 0.0: t3 := box
  refine ER.sil rfl rfl rfl rfl (Sil.assign rfl) ?_  -- 0.1: t4 := assign
  refine ER.nil (fun w3 h3 => ?_)
  refine AQ.then ?_
  refine EC.seq ?_
  refine EC.seq ?_
  -- region 1  room.go:77
  refine EC.region (fun i => [1, 0, 1, 1, 0, 0, 1, 1].getD i 0) [0, 1, 2, 3, 4, 5, 6, 7] rfl ?_
  refine ER.sil rfl rfl rfl rfl (Sil.move rfl) ?_  -- 1.0: t5 := move
  refine ER.ex rfl rfl rfl rfl (Exa.call fok16 rfl rfl (fun wx hx => (right_any l _ wx (hl.ext (((h1.trans h2).trans h3).trans hx))))) ?_  -- 1.1: t6 := call
  refine ER.sil rfl rfl rfl rfl (Sil.not rfl) ?_  -- 1.2: t7 := unOp
  refine ER.sil rfl rfl rfl rfl (Sil.move rfl) ?_  -- 1.3: t8 := move
  refine ER.exG rfl rfl rfl rfl rfl rfl (fun hc => Exa.loadAgg (vs := spC s) agg24 rfl ((r2.ext h3).at)) ?_  -- 1.4: t9 := load
  refine ER.exG rfl rfl rfl rfl rfl rfl (fun hc => Exa.call fok27 rfl (evs_cons (congrArg some (sel_eq hc _)) evs_nil) (fun wx hx => (valid_any s wx))) ?_  -- 1.5: t10 := call
  refine ER.silG rfl rfl rfl rfl rfl rfl (fun hc => Sil.not (congrArg some (sel_eq hc _))) ?_  -- 1.6: t11 := unOp
  refine ER.sil rfl rfl rfl rfl (Sil.pickOr rfl rfl rfl) ?_  -- 1.7: t12 := pick
  refine ER.nil (fun w4 h4 => ?_)
  refine AQ.then ?_
  refine EC.cond rfl (fun hb0 => ?_) (fun hb0 => ?_)  -- cond 0: t12
  ·
    refine EC.seq ?_
    -- region 2  room.go:78
    refine EC.region (fun i => [1].getD i 0) [0] rfl ?_
    refine ER.sil rfl rfl rfl rfl (Sil.assign rfl) ?_  -- 2.0: t4 := assign
    refine ER.nil (fun w5 h5 => ?_)
    refine AQ.then ?_
    refine EC.ret ?_
    refine AQ.thenRet ?_
    refine AQ.ret1 Try.results22 rfl ?_
    exact ⟨by rw [meetsB, if_pos hb0], ((((h1.trans h2).trans h3).trans h4).trans h5)⟩
  ·
    refine EC.skip ?_
    refine AQ.then ?_
    refine EC.seq ?_
    -- region 3  room.go:80
    refine EC.region (fun i => [1, 1, 0, 1].getD i 0) [0, 1, 2, 3] rfl ?_
    refine ER.sil rfl rfl rfl rfl (Sil.move rfl) ?_  -- 3.0: t13 := move
    refine ER.sil rfl rfl rfl rfl (Sil.makeFunc rfl rfl) ?_  -- 3.1: t14 := makeFunc
    refine ER.ex rfl rfl rfl rfl (Exa.call fok32 rfl rfl (fun wx hx => (containsFunc_any l _ wx (hl.ext ((((h1.trans h2).trans h3).trans h4).trans hx)) (meetsP s) 34 [.pointer (some ⟨w1.heap.size, 0, none⟩)] fok34 (fun x wy hy => meetsC_any x s _ wy ((r2.ext (h3.trans h4)).ext (hx.trans hy)))))) ?_  -- 3.2: t15 := call
    refine ER.sil rfl rfl rfl rfl (Sil.assign rfl) ?_  -- 3.3: t4 := assign
    refine ER.nil (fun w6 h6 => ?_)
    refine AQ.then ?_
    refine EC.ret ?_
    refine AQ.ret1 Try.results22 rfl ?_
    exact ⟨by rw [meetsB, if_neg (by rw [hb0]; exact Bool.false_ne_true)], ((((h1.trans h2).trans h3).trans h4).trans h6)⟩

end Go.Proofs.Ytnnmeipmkfbpdaa
