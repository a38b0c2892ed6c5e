/- Bind: the law's in, offered, few. -/
import Derived.Test.YtgagjmapjdeknaaW17
namespace Go.Proofs.Ytgagjmapjdeknaa
open Go.RowKit Go.XK Go.BindLaw

-- linchpin/linchpinlaw31.in: parameters ['[]int', 'int'] (free 0), results [('ResultVar.tmp', 4)], 18 slots
set_option maxRecDepth 100000 in
theorem in_any (l : List Int) (v : Value) (s : Int) (w : World) (hl : Ints w v l) :
    Calls Try.prog 19 [v, .int .i64 s].toArray w fun e w' => e = .returned (.bool (hasI l s)) ∧ Ext w w' := by
  have hm := hl.max
  refine calls_of Try.func19 rfl Try.ntmps19 rfl ?_
  refine EC.seq ?_
  -- region 0  law.go:76
  refine EC.region (fun i => [1].getD i 0) [0] rfl ?_
  refine ER.sil rfl rfl rfl rfl (Sil.assign rfl) ?_  -- 0.0: t4 := assign
  refine ER.nil (fun w1 h1 => ?_)
  refine AQ.then ?_
  refine EC.seq ?_
  refine EC.seq ?_
  -- region 1  law.go:77
  refine EC.region (fun i => [1].getD i 0) [0] rfl ?_
  refine ER.sil rfl rfl rfl rfl (Sil.assign rfl) ?_  -- 1.0: t5 := assign
  refine ER.nil (fun w2 h2 => ?_)
  refine AQ.then ?_
  refine EC.block ?_
  refine EC.loop (σ := Nat) (fun k => [(0, v), (1, .int .i64 s), (5, .int .i64 (k : Int))]) (fun k wr => Ext w wr ∧ k ≤ l.length ∧ ∀ j (h : j < l.length), j < k → l[j] ≠ s) (fun k => l.length - k) 0 [0, 1, 5] rfl ?_ (fun k wr hF => ?_)
  · exact ⟨(h1.trans h2), Nat.zero_le _, fun j _ h => absurd h (Nat.not_lt_zero j)⟩
  obtain ⟨hE, hk, hok⟩ := hF
  refine EC.seq ?_
  refine EC.seq ?_
  -- region 2  law.go:77
  refine EC.region (fun i => [1, 1, 1, 1].getD i 0) [0, 1, 2, 3] rfl ?_
  refine ER.sil rfl rfl rfl rfl (Sil.move rfl) ?_  -- 2.0: t6 := move
  refine ER.sil rfl rfl rfl rfl (Sil.move rfl) ?_  -- 2.1: t7 := move
  refine ER.sil rfl rfl rfl rfl (Sil.lenR Try.underlying28 rfl (Ints.isS hl)) ?_  -- 2.2: t8 := call
  refine ER.sil rfl rfl rfl rfl (Sil.lss rfl rfl) ?_  -- 2.3: t9 := binOp
  refine ER.nil (fun w3 h3 => ?_)
  refine AQ.then ?_
  refine EC.cond rfl (fun hb0 => ?_) (fun hb0 => ?_)  -- cond 0: t9
  ·
    have hlt : k < l.length := by have := of_decide_eq_true hb0; omega
    refine EC.skip ?_
    refine AQ.then ?_
    refine EC.seq ?_
    refine EC.block ?_
    refine EC.seq ?_
    -- region 4  law.go:78
    refine EC.region (fun i => [1, 1, 1, 0, 1, 1].getD i 0) [0, 1, 2, 3, 4, 5] rfl ?_
    refine ER.sil rfl rfl rfl rfl (Sil.move rfl) ?_  -- 4.0: t12 := move
    refine ER.sil rfl rfl rfl rfl (Sil.move rfl) ?_  -- 4.1: t13 := move
    refine ER.sil rfl rfl rfl rfl (Sil.indexR Try.underlying28 inf3 rfl rfl (Ints.isE hl (by omega)) (by omega) (by omega)) ?_  -- 4.2: t14 := indexAddr
    refine ER.ex rfl rfl rfl rfl (Exa.load flat3 rfl (Ints.cell (hl.ext (hE.trans h3)) hlt)) ?_  -- 4.3: t15 := load
    refine ER.sil rfl rfl rfl rfl (Sil.move rfl) ?_  -- 4.4: t16 := move
    refine ER.sil rfl rfl rfl rfl (Sil.eql rfl rfl) ?_  -- 4.5: t17 := binOp
    refine ER.nil (fun w4 h4 => ?_)
    refine AQ.then ?_
    refine EC.cond rfl (fun hb1 => ?_) (fun hb1 => ?_)  -- cond 1: t17
    ·
      have hb1 : l[k] = s := by simpa using hb1
      refine EC.seq ?_
      -- region 5  law.go:79
      refine EC.region (fun i => [1].getD i 0) [0] rfl ?_
      refine ER.sil rfl rfl rfl rfl (Sil.assign rfl) ?_  -- 5.0: t4 := assign
      refine ER.nil (fun w5 h5 => ?_)
      refine AQ.then ?_
      refine EC.ret ?_
      refine AQ.blockRet ?_
      refine AQ.thenRet ?_
      refine AQ.thenRet ?_
      refine AQ.blockRet ?_
      refine AQ.thenRet ?_
      refine AQ.ret1 Try.results19 rfl ?_
      exact ⟨by rw [hasI, decide_eq_true (hb1 ▸ List.getElem_mem hlt : s ∈ l)], (((hE.trans h3).trans h4).trans h5)⟩
    ·
      have hb1 : l[k] ≠ s := by simpa using hb1
      refine EC.skip ?_
      refine AQ.blockNormal ?_
      refine AQ.then ?_
      -- region 3  law.go:77
      refine EC.region (fun i => [1, 1, 1].getD i 0) [0, 1, 2] rfl ?_
      refine ER.sil rfl rfl rfl rfl (Sil.move rfl) ?_  -- 3.0: t10 := move
      refine ER.sil rfl rfl rfl rfl (Sil.add rfl rfl) ?_  -- 3.1: t11 := binOp
      refine ER.sil rfl rfl rfl rfl (Sil.assign rfl) ?_  -- 3.2: t5 := assign
      refine ER.nil (fun w6 h6 => ?_)
      refine AQ.round (k + 1) [0, 1, 5] (by rw [← wrap_succ hlt hm]; rfl) ⟨(((hE.trans h3).trans h4).trans h6), hlt, fun j h hj => ?_⟩ (by omega)
      rcases Nat.lt_or_eq_of_le (Nat.le_of_lt_succ hj) with hj | rfl
      · exact hok j h hj
      · exact hb1
  ·
    refine EC.exit ?_
    refine AQ.thenExit ?_
    refine AQ.thenExit ?_
    refine AQ.blockHit ?_
    refine AQ.then ?_
    refine EC.seq ?_
    -- region 6  law.go:82
    refine EC.region (fun i => [1].getD i 0) [0] rfl ?_
    refine ER.sil rfl rfl rfl rfl (Sil.assign rfl) ?_  -- 6.0: t4 := assign
    refine ER.nil (fun w7 h7 => ?_)
    refine AQ.then ?_
    refine EC.ret ?_
    refine AQ.ret1 Try.results19 rfl ?_
    have hge : k = l.length := by have := of_decide_eq_false hb0; omega
    subst hge
    have hn : hasI l s = false := decide_eq_false fun h => by
      obtain ⟨j, hj, he⟩ := List.getElem_of_mem h
      exact hok j hj hj he
    exact ⟨by rw [hn], ((hE.trans h3).trans h7)⟩

-- linchpin/linchpinlaw31.offered: parameters ['api.Image', 'string', 'string'] (free 0), results [('ResultVar.tmp', 6)], 55 slots
set_option maxRecDepth 100000 in
theorem offered_any (ics : List Value) (y : Mo) (name want : ByteArray) (w : World) (hic : ImC w ics y.exports y.versions) :
    Calls Try.prog 20 [.agg ics.toArray, .string name, .string want].toArray w fun e w' => e = .returned (.int .i64 (offI y name want)) ∧ Ext w w' := by
  obtain ⟨ev, vv, hev, hex, hvv, hvd⟩ := hic
  have hm := hex.max
  refine calls_of Try.func20 rfl Try.ntmps20 rfl ?_
  refine EC.seq ?_
  -- region 0  law.go:154
  refine EC.region (fun i => [2, 1].getD i 0) [0, 1] rfl ?_
  refine ER.st rfl rfl rfl rfl (fun w1 h1 => Stp.box rfl (fun w2 h2 s2 r2 => ⟨h2, ?_⟩))  -- 0.0: t3 := box
  have n0 := h1.size
  refine ER.sil rfl rfl rfl rfl (Sil.assign rfl) ?_  -- 0.1: t6 := assign
  refine ER.nil (fun w3 h3 => ?_)
  refine AQ.then ?_
  refine EC.seq ?_
  refine EC.seq ?_
  -- region 1  law.go:155
  refine EC.region (fun i => [1].getD i 0) [0] rfl ?_
  refine ER.sil rfl rfl rfl rfl (Sil.assign rfl) ?_  -- 1.0: t7 := assign
  refine ER.nil (fun w4 h4 => ?_)
  refine AQ.then ?_
  refine EC.block ?_
  refine EC.loop (σ := Nat) (fun k => [(1, .string name), (2, .string want), (3, ptr w1.heap.size), (7, .int .i64 (k : Int))]) (fun k wr => Ext w wr ∧ Row wr w1.heap.size 54 ics ∧ k ≤ y.exports.length ∧ ∀ j (h : j < y.exports.length), j < k → isOff y.versions name want y.exports[j] = false) (fun k => y.exports.length - k) 0 [1, 2, 3, 7] rfl ?_ (fun k wr hF => ?_)
  · exact ⟨(((h1.trans h2).trans h3).trans h4), (r2.ext (h3.trans h4)), Nat.zero_le _, fun j _ h => absurd h (Nat.not_lt_zero j)⟩
  obtain ⟨hE, q3, hk, hok⟩ := hF
  refine EC.seq ?_
  refine EC.seq ?_
  -- region 2  law.go:155
  refine EC.region (fun i => [1, 1, 0, 1, 1].getD i 0) [0, 1, 2, 3, 4] rfl ?_
  refine ER.sil rfl rfl rfl rfl (Sil.move rfl) ?_  -- 2.0: t11 := move
  refine ER.sil rfl rfl rfl rfl (Sil.fieldAddr Try.underlying54 rfl inf39 rfl) ?_  -- 2.1: t12 := fieldAddr
  refine ER.ex rfl rfl rfl rfl (Exa.load flat39 rfl ((q3).cell hev)) ?_  -- 2.2: t13 := load
  refine ER.sil rfl rfl rfl rfl (Sil.lenR Try.underlying39 rfl (Exs.isS hex)) ?_  -- 2.3: t14 := call
  refine ER.sil rfl rfl rfl rfl (Sil.lss rfl rfl) ?_  -- 2.4: t15 := binOp
  refine ER.nil (fun w5 h5 => ?_)
  refine AQ.then ?_
  refine EC.cond rfl (fun hb0 => ?_) (fun hb0 => ?_)  -- cond 0: t15
  ·
    have hlt : k < y.exports.length := by have := of_decide_eq_true hb0; omega
    obtain ⟨cs, hcl, hat, hco⟩ := hex.elem hlt
    refine EC.skip ?_
    refine AQ.then ?_
    refine EC.seq ?_
    refine EC.block ?_
    refine EC.seq ?_
    -- region 4  law.go:156
    refine EC.region (fun i => [1, 0, 1, 1, 0, 2, 3].getD i 0) [0, 1, 2, 3, 4, 5, 6] rfl ?_
    refine ER.sil rfl rfl rfl rfl (Sil.fieldAddr Try.underlying54 rfl inf39 rfl) ?_  -- 4.0: t18 := fieldAddr
    refine ER.ex rfl rfl rfl rfl (Exa.load flat39 rfl (((q3.ext h5)).cell hev)) ?_  -- 4.1: t19 := load
    refine ER.sil rfl rfl rfl rfl (Sil.move rfl) ?_  -- 4.2: t20 := move
    refine ER.sil rfl rfl rfl rfl (Sil.indexR Try.underlying39 inf62 rfl rfl (Exs.isE hex (by omega)) (by omega) (by omega)) ?_  -- 4.3: t21 := indexAddr
    refine ER.ex rfl rfl rfl rfl (Exa.loadAgg (vs := cs) (by rw [hcl]; exact agg62) rfl (hat.ext (hE.trans h5))) ?_  -- 4.4: t22 := load
    refine ER.st rfl rfl rfl rfl (fun w6 h6 => Stp.alloc inf62 (fun w7 h7 s7 r7 => ⟨h7, ?_⟩))  -- 4.5: t8 := alloc
    refine ER.bar rfl rfl rfl rfl (fun w8 h8 => Stp.store (ex_sz hcl) rfl rfl (r7.ext h8) (ag_len (by rw [hcl]; rfl)) (mo_one hco.one) (fun w9 u9 r9 => ?_))  -- 4.6: tNone := store
    have e9 := ((h6.trans h7).trans h8).upd u9 h6.size
    refine ER.nil (fun w10 h10 => ?_)
    refine AQ.then ?_
    refine EC.seq ?_
    -- region 5  law.go:157
    refine EC.region (fun i => [1, 1, 1, 1, 0, 1, 1, 0, 1, 1, 1, 1].getD i 0) [0, 1, 2, 3, 4, 5, 6, 7, 8, 9, 10, 11] rfl ?_
    refine ER.sil rfl rfl rfl rfl (Sil.move rfl) ?_  -- 5.0: t23 := move
    refine ER.sil rfl rfl rfl rfl (Sil.seql rfl rfl) ?_  -- 5.1: t24 := binOp
    refine ER.sil rfl rfl rfl rfl (Sil.move rfl) ?_  -- 5.2: t25 := move
    refine ER.silG rfl rfl rfl rfl rfl rfl (fun hc => Sil.fieldAddr Try.underlying62 rfl inf4 rfl) ?_  -- 5.3: t26 := fieldAddr
    refine ER.exG rfl rfl rfl rfl rfl rfl (fun hc => Exa.load flat4 (congrArg some (sel_eq hc _)) (((r9.ext h10)).cell hco.2.2.2.1)) ?_  -- 5.4: t27 := load
    refine ER.silG rfl rfl rfl rfl rfl rfl (fun hc => Sil.move (congrArg some (sel_eq hc _))) ?_  -- 5.5: t28 := move
    refine ER.silGG rfl rfl rfl rfl rfl rfl (fun hp hc => Sil.fieldAddr Try.underlying62 rfl inf9 rfl) ?_  -- 5.6: t29 := fieldAddr
    refine ER.exGG rfl rfl rfl rfl rfl rfl (fun hp hc => Exa.load flat9 (congrArg some (sel_2 hp hc _)) (((r9.ext h10)).cell hco.2.2.1)) ?_  -- 5.7: t30 := load
    refine ER.silGG rfl rfl rfl rfl rfl rfl (fun hp hc => Sil.seql (congrArg some (sel_2 hp hc _)) rfl) ?_  -- 5.8: t31 := binOp
    refine ER.silG rfl rfl rfl rfl rfl rfl (fun hc => Sil.pickOr (congrArg some (sel_eq hc _)) rfl (congrArg some (sel_in hc _ _))) ?_  -- 5.9: t32 := pick
    refine ER.sil rfl rfl rfl rfl (Sil.pickAnd rfl rfl rfl) ?_  -- 5.10: t33 := pick
    refine ER.sil rfl rfl rfl rfl (Sil.assign rfl) ?_  -- 5.11: t9 := assign
    refine ER.nil (fun w11 h11 => ?_)
    refine AQ.then ?_
    refine EC.seq ?_
    -- region 6  law.go:158
    refine EC.region (fun i => [1, 1, 1, 1, 0, 1, 0, 1, 0, 1, 1].getD i 0) [0, 1, 2, 3, 4, 5, 6, 7, 8, 9, 10] rfl ?_
    refine ER.sil rfl rfl rfl rfl (Sil.move rfl) ?_  -- 6.0: t34 := move
    refine ER.sil rfl rfl rfl rfl (Sil.sneq rfl rfl) ?_  -- 6.1: t35 := binOp
    refine ER.sil rfl rfl rfl rfl (Sil.move rfl) ?_  -- 6.2: t36 := move
    refine ER.silG rfl rfl rfl rfl rfl rfl (fun hc => Sil.fieldAddr Try.underlying54 rfl inf43 rfl) ?_  -- 6.3: t37 := fieldAddr
    refine ER.exG rfl rfl rfl rfl rfl rfl (fun hc => Exa.load flat43 (congrArg some (sel_eq hc _)) (((q3.ext (((h5.trans e9).trans h10).trans h11))).cell hvv)) ?_  -- 6.4: t38 := load
    refine ER.silG rfl rfl rfl rfl rfl rfl (fun hc => Sil.fieldAddr Try.underlying62 rfl inf9 rfl) ?_  -- 6.5: t39 := fieldAddr
    refine ER.exG rfl rfl rfl rfl rfl rfl (fun hc => Exa.load flat9 (congrArg some (sel_eq hc _)) (((r9.ext (h10.trans h11))).cell hco.2.2.1)) ?_  -- 6.6: t40 := load
    refine ER.silG rfl rfl rfl rfl rfl rfl (fun hc => Sil.move rfl) ?_  -- 6.7: t41 := move
    refine ER.exG rfl rfl rfl rfl rfl rfl (fun hc => Exa.call fok27 rfl (evs_cons (congrArg some (sel_eq hc _)) (evs_cons (congrArg some (sel_eq hc _)) (evs_cons (congrArg some (sel_eq hc _)) evs_nil))) (fun wx hx => (serves_any y.versions vv y.exports[k].version want wx (hvd.ext (((((hE.trans h5).trans e9).trans h10).trans h11).trans hx))))) ?_  -- 6.8: t42 := call
    refine ER.sil rfl rfl rfl rfl (Sil.pickAnd rfl rfl rfl) ?_  -- 6.9: t43 := pick
    refine ER.sil rfl rfl rfl rfl (Sil.assign rfl) ?_  -- 6.10: t10 := assign
    refine ER.nil (fun w12 h12 => ?_)
    refine AQ.then ?_
    refine EC.seq ?_
    -- region 7  law.go:159
    refine EC.region (fun i => [1, 0, 1, 1, 1, 1, 1, 1, 1, 1].getD i 0) [0, 1, 2, 3, 4, 5, 6, 7, 8, 9] rfl ?_
    refine ER.sil rfl rfl rfl rfl (Sil.fieldAddr Try.underlying62 rfl inf9 rfl) ?_  -- 7.0: t44 := fieldAddr
    refine ER.ex rfl rfl rfl rfl (Exa.load flat9 rfl (((r9.ext ((h10.trans h11).trans h12))).cell hco.2.1)) ?_  -- 7.1: t45 := load
    refine ER.sil rfl rfl rfl rfl (Sil.move rfl) ?_  -- 7.2: t46 := move
    refine ER.sil rfl rfl rfl rfl (Sil.seql rfl rfl) ?_  -- 7.3: t47 := binOp
    refine ER.sil rfl rfl rfl rfl (Sil.move rfl) ?_  -- 7.4: t48 := move
    refine ER.silG rfl rfl rfl rfl rfl rfl (fun hc => Sil.move rfl) ?_  -- 7.5: t49 := move
    refine ER.silG rfl rfl rfl rfl rfl rfl (fun hc => Sil.move (congrArg some (sel_eq hc _))) ?_  -- 7.6: t50 := move
    refine ER.silGG rfl rfl rfl rfl rfl rfl (fun hp hc => Sil.move rfl) ?_  -- 7.7: t51 := move
    refine ER.silG rfl rfl rfl rfl rfl rfl (fun hc => Sil.pickOr (congrArg some (sel_eq hc _)) rfl (congrArg some (sel_in hc _ _))) ?_  -- 7.8: t52 := pick
    refine ER.sil rfl rfl rfl rfl (Sil.pickAnd rfl rfl rfl) ?_  -- 7.9: t53 := pick
    refine ER.nil (fun w13 h13 => ?_)
    refine AQ.then ?_
    refine EC.cond rfl (fun hb1 => ?_) (fun hb1 => ?_)  -- cond 1: t53
    ·
      have hyes : isOff y.versions name want y.exports[k] = true := by rw [isOff, fits2]; exact hb1
      refine EC.seq ?_
      -- region 8  law.go:160
      refine EC.region (fun i => [1, 1].getD i 0) [0, 1] rfl ?_
      refine ER.sil rfl rfl rfl rfl (Sil.move rfl) ?_  -- 8.0: t54 := move
      refine ER.sil rfl rfl rfl rfl (Sil.assign rfl) ?_  -- 8.1: t6 := assign
      refine ER.nil (fun w14 h14 => ?_)
      refine AQ.then ?_
      refine EC.ret ?_
      refine AQ.blockRet ?_
      refine AQ.thenRet ?_
      refine AQ.thenRet ?_
      refine AQ.blockRet ?_
      refine AQ.thenRet ?_
      refine AQ.ret1 Try.results20 rfl ?_
      exact ⟨by rw [offI, offX_hit hlt hyes hok], (((((((hE.trans h5).trans e9).trans h10).trans h11).trans h12).trans h13).trans h14)⟩
    ·
      have hno : isOff y.versions name want y.exports[k] = false := by rw [isOff, fits2]; exact hb1
      refine EC.skip ?_
      refine AQ.blockNormal ?_
      refine AQ.then ?_
      -- region 3  law.go:155
      refine EC.region (fun i => [1, 1, 1].getD i 0) [0, 1, 2] rfl ?_
      refine ER.sil rfl rfl rfl rfl (Sil.move rfl) ?_  -- 3.0: t16 := move
      refine ER.sil rfl rfl rfl rfl (Sil.add rfl rfl) ?_  -- 3.1: t17 := binOp
      refine ER.sil rfl rfl rfl rfl (Sil.assign rfl) ?_  -- 3.2: t7 := assign
      refine ER.nil (fun w15 h15 => ?_)
      exact AQ.round (k + 1) [1, 2, 3, 7] (by rw [← wrap_succ hlt hm]; rfl) ⟨(((((((hE.trans h5).trans e9).trans h10).trans h11).trans h12).trans h13).trans h15), (q3.ext ((((((h5.trans e9).trans h10).trans h11).trans h12).trans h13).trans h15)), hlt, (fun j h hj => by
        rcases Nat.lt_or_eq_of_le (Nat.le_of_lt_succ hj) with hj | rfl
        · exact hok j h hj
        · exact hno)⟩ (by omega)
  ·
    refine EC.exit ?_
    refine AQ.thenExit ?_
    refine AQ.thenExit ?_
    refine AQ.blockHit ?_
    refine AQ.then ?_
    refine EC.seq ?_
    -- region 9  law.go:163
    refine EC.region (fun i => [1].getD i 0) [0] rfl ?_
    refine ER.sil rfl rfl rfl rfl (Sil.assign rfl) ?_  -- 9.0: t6 := assign
    refine ER.nil (fun w16 h16 => ?_)
    refine AQ.then ?_
    refine EC.ret ?_
    refine AQ.ret1 Try.results20 rfl ?_
    have hge : k = y.exports.length := by have := of_decide_eq_false hb0; omega
    subst hge
    exact ⟨by rw [offI, offX_miss fun j h => hok j h h], ((hE.trans h5).trans h16)⟩

-- linchpin/linchpinlaw31.few: parameters ['[]api.Module'] (free 0), results [('ResultVar.tmp', 2)], 54 slots
set_option maxRecDepth 100000 in
theorem few_any (ms : List Mo) (v : Value) (w : World) (hms : Mods w v ms) :
    Calls Try.prog 9 [v].toArray w fun e w' => e = .returned (.bool (fewB ms)) ∧ Ext w w' := by
  have hm := hms.max
  refine calls_of Try.func9 rfl Try.ntmps9 rfl ?_
  refine EC.seq ?_
  -- region 0  law.go:33
  refine EC.region (fun i => [1].getD i 0) [0] rfl ?_
  refine ER.sil rfl rfl rfl rfl (Sil.assign rfl) ?_  -- 0.0: t2 := assign
  refine ER.nil (fun w1 h1 => ?_)
  refine AQ.then ?_
  refine EC.seq ?_
  refine EC.seq ?_
  -- region 1  law.go:34
  refine EC.region (fun i => [1, 1, 1].getD i 0) [0, 1, 2] rfl ?_
  refine ER.sil rfl rfl rfl rfl (Sil.move rfl) ?_  -- 1.0: t6 := move
  refine ER.sil rfl rfl rfl rfl (Sil.lenR Try.underlying22 rfl (Mods.isS hms)) ?_  -- 1.1: t7 := call
  refine ER.sil rfl rfl rfl rfl (Sil.gtr rfl rfl) ?_  -- 1.2: t8 := binOp
  refine ER.nil (fun w2 h2 => ?_)
  refine AQ.then ?_
  refine EC.cond rfl (fun hb0 => ?_) (fun hb0 => ?_)  -- cond 0: t8
  ·
    have h8 : ¬ ms.length ≤ 8 := by simp at hb0; omega
    refine EC.seq ?_
    -- region 2  law.go:35
    refine EC.region (fun i => [1].getD i 0) [0] rfl ?_
    refine ER.sil rfl rfl rfl rfl (Sil.assign rfl) ?_  -- 2.0: t2 := assign
    refine ER.nil (fun w3 h3 => ?_)
    refine AQ.then ?_
    refine EC.ret ?_
    refine AQ.thenRet ?_
    refine AQ.ret1 Try.results9 rfl ?_
    exact ⟨by rw [fewB, decide_eq_false h8, Bool.false_and], ((h1.trans h2).trans h3)⟩
  ·
    have h8 : ms.length ≤ 8 := by simp at hb0; omega
    refine EC.skip ?_
    refine AQ.then ?_
    refine EC.seq ?_
    refine EC.seq ?_
    -- region 3  law.go:37
    refine EC.region (fun i => [1].getD i 0) [0] rfl ?_
    refine ER.sil rfl rfl rfl rfl (Sil.assign rfl) ?_  -- 3.0: t3 := assign
    refine ER.nil (fun w4 h4 => ?_)
    refine AQ.then ?_
    refine EC.block ?_
    refine EC.loop (σ := Nat) (fun i => [(0, v), (3, .int .i64 (i : Int))]) (fun i wr => Ext w wr ∧ i ≤ ms.length ∧ ∀ j (h : j < ms.length), j < i → okM ms[j] = true) (fun i => ms.length - i) 0 [0, 3] rfl ?_ (fun i wr hF => ?_)
    · exact ⟨((h1.trans h2).trans h4), Nat.zero_le _, fun j _ h => absurd h (Nat.not_lt_zero j)⟩
    obtain ⟨hE, hi, hok⟩ := hF
    have hE0 := hE
    refine EC.seq ?_
    refine EC.seq ?_
    -- region 4  law.go:37
    refine EC.region (fun i => [1, 1, 1, 1].getD i 0) [0, 1, 2, 3] rfl ?_
    refine ER.sil rfl rfl rfl rfl (Sil.move rfl) ?_  -- 4.0: t9 := move
    refine ER.sil rfl rfl rfl rfl (Sil.move rfl) ?_  -- 4.1: t10 := move
    refine ER.sil rfl rfl rfl rfl (Sil.lenR Try.underlying22 rfl (Mods.isS hms)) ?_  -- 4.2: t11 := call
    refine ER.sil rfl rfl rfl rfl (Sil.lss rfl rfl) ?_  -- 4.3: t12 := binOp
    refine ER.nil (fun w5 h5 => ?_)
    refine AQ.then ?_
    refine EC.cond rfl (fun hb1 => ?_) (fun hb1 => ?_)  -- cond 1: t12
    ·
      have hlt : i < ms.length := by have := of_decide_eq_true hb1; omega
      have hin := hms.inR hlt
      have hmi := moAt_nat hlt
      obtain ⟨ics, hicl, hiat, ⟨ev, vv, hev, hex, hvv, hvd⟩, hione⟩ := hms.image hin
      obtain ⟨nv, hnv, hns⟩ := hms.needs hin
      have hvm := hvd.max
      refine EC.skip ?_
      refine AQ.then ?_
      refine EC.seq ?_
      refine EC.block ?_
      refine EC.seq ?_
      -- region 6  law.go:38
      refine EC.region (fun i => [1, 1, 1, 1, 0, 2, 3].getD i 0) [0, 1, 2, 3, 4, 5, 6] rfl ?_
      refine ER.sil rfl rfl rfl rfl (Sil.move rfl) ?_  -- 6.0: t15 := move
      refine ER.sil rfl rfl rfl rfl (Sil.move rfl) ?_  -- 6.1: t16 := move
      refine ER.sil rfl rfl rfl rfl (Sil.indexR Try.underlying22 inf56 rfl rfl (Mods.isE hms (by omega)) (by omega) (by omega)) ?_  -- 6.2: t17 := indexAddr
      refine ER.sil rfl rfl rfl rfl (Sil.fieldAddr Try.underlying56 rfl inf54 rfl) ?_  -- 6.3: t18 := fieldAddr
      refine ER.ex rfl rfl rfl rfl (Exa.loadAgg (vs := ics) (by rw [hicl]; exact agg54) rfl (hiat.ext (hE.trans h5))) ?_  -- 6.4: t19 := load
      refine ER.st rfl rfl rfl rfl (fun w6 h6 => Stp.alloc inf54 (fun w7 h7 s7 r7 => ⟨h7, ?_⟩))  -- 6.5: t4 := alloc
      refine ER.bar rfl rfl rfl rfl (fun w8 h8 => Stp.store (im_sz hicl) rfl rfl (r7.ext h8) (ag_len (by rw [hicl]; rfl)) (mo_one hione) (fun w9 u9 r9 => ?_))  -- 6.6: tNone := store
      have e9 := ((h6.trans h7).trans h8).upd u9 h6.size
      refine ER.nil (fun w10 h10 => ?_)
      refine AQ.then ?_
      refine EC.seq ?_
      refine EC.seq ?_
      -- region 7  law.go:39
      refine EC.region (fun i => [1, 1, 1, 1, 0, 1, 1, 1, 1, 0, 1, 1, 1, 1, 1, 0, 1, 1, 1].getD i 0) [0, 1, 2, 3, 4, 5, 6, 7, 8, 9, 10, 11, 12, 13, 14, 15, 16, 17, 18] rfl ?_
      refine ER.sil rfl rfl rfl rfl (Sil.move rfl) ?_  -- 7.0: t20 := move
      refine ER.sil rfl rfl rfl rfl (Sil.move rfl) ?_  -- 7.1: t21 := move
      refine ER.sil rfl rfl rfl rfl (Sil.indexR Try.underlying22 inf56 rfl rfl (Mods.isE hms (by omega)) (by omega) (by omega)) ?_  -- 7.2: t22 := indexAddr
      refine ER.sil rfl rfl rfl rfl (Sil.fieldAddr Try.underlying56 rfl inf28 rfl) ?_  -- 7.3: t23 := fieldAddr
      refine ER.ex rfl rfl rfl rfl (Exa.load flat28 rfl (cell_ext (((hE.trans h5).trans e9).trans h10) hnv)) ?_  -- 7.4: t24 := load
      refine ER.sil rfl rfl rfl rfl (Sil.lenR Try.underlying28 rfl (Ints.isS hns)) ?_  -- 7.5: t25 := call
      refine ER.sil rfl rfl rfl rfl (Sil.gtr rfl rfl) ?_  -- 7.6: t26 := binOp
      refine ER.sil rfl rfl rfl rfl (Sil.move rfl) ?_  -- 7.7: t27 := move
      refine ER.silG rfl rfl rfl rfl rfl rfl (fun hc => Sil.fieldAddr Try.underlying54 rfl inf39 rfl) ?_  -- 7.8: t28 := fieldAddr
      refine ER.exG rfl rfl rfl rfl rfl rfl (fun hc => Exa.load flat39 (congrArg some (sel_eq hc _)) (((r9.ext h10)).cell hev)) ?_  -- 7.9: t29 := load
      refine ER.silG rfl rfl rfl rfl rfl rfl (fun hc => Sil.lenR Try.underlying39 (congrArg some (sel_eq hc _)) (Exs.isS hex)) ?_  -- 7.10: t30 := call
      refine ER.silG rfl rfl rfl rfl rfl rfl (fun hc => Sil.gtr (congrArg some (sel_eq hc _)) rfl) ?_  -- 7.11: t31 := binOp
      refine ER.sil rfl rfl rfl rfl (Sil.pickOr rfl rfl rfl) ?_  -- 7.12: t32 := pick
      refine ER.sil rfl rfl rfl rfl (Sil.move rfl) ?_  -- 7.13: t33 := move
      refine ER.silG rfl rfl rfl rfl rfl rfl (fun hc => Sil.fieldAddr Try.underlying54 rfl inf43 rfl) ?_  -- 7.14: t34 := fieldAddr
      refine ER.exG rfl rfl rfl rfl rfl rfl (fun hc => Exa.load flat43 (congrArg some (sel_eq hc _)) (((r9.ext h10)).cell hvv)) ?_  -- 7.15: t35 := load
      refine ER.silG rfl rfl rfl rfl rfl rfl (fun hc => Sil.lenR Try.underlying43 (congrArg some (sel_eq hc _)) (Vds.isS hvd)) ?_  -- 7.16: t36 := call
      refine ER.silG rfl rfl rfl rfl rfl rfl (fun hc => Sil.gtr (congrArg some (sel_eq hc _)) rfl) ?_  -- 7.17: t37 := binOp
      refine ER.sil rfl rfl rfl rfl (Sil.pickOr rfl rfl rfl) ?_  -- 7.18: t38 := pick
      refine ER.nil (fun w11 h11 => ?_)
      refine AQ.then ?_
      refine EC.cond rfl (fun hb2 => ?_) (fun hb2 => ?_)  -- cond 2: t38
      ·
        refine EC.seq ?_
        -- region 8  law.go:40
        refine EC.region (fun i => [1].getD i 0) [0] rfl ?_
        refine ER.sil rfl rfl rfl rfl (Sil.assign rfl) ?_  -- 8.0: t2 := assign
        refine ER.nil (fun w12 h12 => ?_)
        refine AQ.then ?_
        refine EC.ret ?_
        refine AQ.thenRet ?_
        refine AQ.blockRet ?_
        refine AQ.thenRet ?_
        refine AQ.thenRet ?_
        refine AQ.blockRet ?_
        refine AQ.thenRet ?_
        refine AQ.ret1 Try.results9 rfl ?_
        have hno : okM (moAt ms (i : Int)) = false := by
          simp only [Bool.or_eq_true, decide_eq_true_eq] at hb2
          unfold okM
          rcases hb2 with (h | h) | h
          · rw [decide_eq_false (show ¬ _ ≤ 8 by omega)]; rfl
          · rw [decide_eq_false (show ¬ (moAt ms (i : Int)).exports.length ≤ 8 by omega), Bool.and_false]; rfl
          · rw [decide_eq_false (show ¬ (moAt ms (i : Int)).versions.length ≤ 8 by omega), Bool.and_false]; rfl
        have hf : ms.all okM = false := by
          rw [← Bool.not_eq_true, List.all_eq_true]
          intro h
          rw [hmi] at hno
          rw [h _ (List.getElem_mem hlt)] at hno
          cases hno
        exact ⟨by rw [fewB, hf, Bool.and_false], (((((hE.trans h5).trans e9).trans h10).trans h11).trans h12)⟩
      ·
        refine EC.skip ?_
        refine AQ.then ?_
        refine EC.seq ?_
        -- region 9  law.go:42
        refine EC.region (fun i => [1].getD i 0) [0] rfl ?_
        refine ER.sil rfl rfl rfl rfl (Sil.assign rfl) ?_  -- 9.0: t5 := assign
        refine ER.nil (fun w13 h13 => ?_)
        refine AQ.then ?_
        refine EC.block ?_
        refine EC.loop (σ := Nat) (fun k => [(0, v), (3, .int .i64 (i : Int)), (4, ptr w6.heap.size), (5, .int .i64 (k : Int))]) (fun k wi => Ext wr wi ∧ Row wi w6.heap.size 54 ics ∧ k ≤ (moAt ms (i : Int)).versions.length ∧ ∀ j (h : j < (moAt ms (i : Int)).versions.length), j < k → (moAt ms (i : Int)).versions[j].parents.length ≤ 6) (fun k => (moAt ms (i : Int)).versions.length - k) 0 [0, 3, 4, 5] rfl ?_ (fun k wi hF => ?_)
        · exact ⟨((((h5.trans e9).trans h10).trans h11).trans h13), (r9.ext ((h10.trans h11).trans h13)), Nat.zero_le _, fun j _ h => absurd h (Nat.not_lt_zero j)⟩
        obtain ⟨hE, q4, hk, hpo⟩ := hF
        refine EC.seq ?_
        refine EC.seq ?_
        -- region 10  law.go:42
        refine EC.region (fun i => [1, 1, 0, 1, 1].getD i 0) [0, 1, 2, 3, 4] rfl ?_
        refine ER.sil rfl rfl rfl rfl (Sil.move rfl) ?_  -- 10.0: t39 := move
        refine ER.sil rfl rfl rfl rfl (Sil.fieldAddr Try.underlying54 rfl inf43 rfl) ?_  -- 10.1: t40 := fieldAddr
        refine ER.ex rfl rfl rfl rfl (Exa.load flat43 rfl ((q4).cell hvv)) ?_  -- 10.2: t41 := load
        refine ER.sil rfl rfl rfl rfl (Sil.lenR Try.underlying43 rfl (Vds.isS hvd)) ?_  -- 10.3: t42 := call
        refine ER.sil rfl rfl rfl rfl (Sil.lss rfl rfl) ?_  -- 10.4: t43 := binOp
        refine ER.nil (fun w14 h14 => ?_)
        refine AQ.then ?_
        refine EC.cond rfl (fun hb3 => ?_) (fun hb3 => ?_)  -- cond 3: t43
        ·
          have hke : k < (moAt ms (i : Int)).versions.length := by have := of_decide_eq_true hb3; omega
          obtain ⟨pv, hat, hps⟩ := hvd.elem hke
          refine EC.skip ?_
          refine AQ.then ?_
          refine EC.seq ?_
          refine EC.block ?_
          refine EC.seq ?_
          -- region 12  law.go:43
          refine EC.region (fun i => [1, 0, 1, 1, 1, 0, 1, 1].getD i 0) [0, 1, 2, 3, 4, 5, 6, 7] rfl ?_
          refine ER.sil rfl rfl rfl rfl (Sil.fieldAddr Try.underlying54 rfl inf43 rfl) ?_  -- 12.0: t46 := fieldAddr
          refine ER.ex rfl rfl rfl rfl (Exa.load flat43 rfl (((q4.ext h14)).cell hvv)) ?_  -- 12.1: t47 := load
          refine ER.sil rfl rfl rfl rfl (Sil.move rfl) ?_  -- 12.2: t48 := move
          refine ER.sil rfl rfl rfl rfl (Sil.indexR Try.underlying43 inf68 rfl rfl (Vds.isE hvd (by omega)) (by omega) (by omega)) ?_  -- 12.3: t49 := indexAddr
          refine ER.sil rfl rfl rfl rfl (Sil.fieldAddr Try.underlying68 rfl inf42 rfl) ?_  -- 12.4: t50 := fieldAddr
          refine ER.ex rfl rfl rfl rfl (Exa.load flat42 rfl ((hat.ext (hE0.trans (hE.trans h14))) 1 _ rfl)) ?_  -- 12.5: t51 := load
          refine ER.sil rfl rfl rfl rfl (Sil.lenR Try.underlying42 rfl (Strs.isS hps)) ?_  -- 12.6: t52 := call
          refine ER.sil rfl rfl rfl rfl (Sil.gtr rfl rfl) ?_  -- 12.7: t53 := binOp
          refine ER.nil (fun w15 h15 => ?_)
          refine AQ.then ?_
          refine EC.cond rfl (fun hb4 => ?_) (fun hb4 => ?_)  -- cond 4: t53
          ·
            refine EC.seq ?_
            -- region 13  law.go:44
            refine EC.region (fun i => [1].getD i 0) [0] rfl ?_
            refine ER.sil rfl rfl rfl rfl (Sil.assign rfl) ?_  -- 13.0: t2 := assign
            refine ER.nil (fun w16 h16 => ?_)
            refine AQ.then ?_
            refine EC.ret ?_
            refine AQ.blockRet ?_
            refine AQ.thenRet ?_
            refine AQ.thenRet ?_
            refine AQ.blockRet ?_
            refine AQ.blockRet ?_
            refine AQ.thenRet ?_
            refine AQ.thenRet ?_
            refine AQ.blockRet ?_
            refine AQ.thenRet ?_
            refine AQ.ret1 Try.results9 rfl ?_
            have hno : okM (moAt ms (i : Int)) = false := by
              have h6 : ¬ (moAt ms (i : Int)).versions[k].parents.length ≤ 6 := by simp at hb4; omega
              have ha : (moAt ms (i : Int)).versions.all (fun d => decide (d.parents.length ≤ 6)) = false := by
                rw [← Bool.not_eq_true, List.all_eq_true]
                intro h
                exact h6 (of_decide_eq_true (h _ (List.getElem_mem hke)))
              unfold okM
              rw [ha, Bool.and_false]
            have hf : ms.all okM = false := by
              rw [← Bool.not_eq_true, List.all_eq_true]
              intro h
              rw [hmi] at hno
              rw [h _ (List.getElem_mem hlt)] at hno
              cases hno
            exact ⟨by rw [fewB, hf, Bool.and_false], hE0.trans (((hE.trans h14).trans h15).trans h16)⟩
          ·
            refine EC.skip ?_
            refine AQ.blockNormal ?_
            refine AQ.then ?_
            -- region 11  law.go:42
            refine EC.region (fun i => [1, 1, 1].getD i 0) [0, 1, 2] rfl ?_
            refine ER.sil rfl rfl rfl rfl (Sil.move rfl) ?_  -- 11.0: t44 := move
            refine ER.sil rfl rfl rfl rfl (Sil.add rfl rfl) ?_  -- 11.1: t45 := binOp
            refine ER.sil rfl rfl rfl rfl (Sil.assign rfl) ?_  -- 11.2: t5 := assign
            refine ER.nil (fun w17 h17 => ?_)
            refine AQ.round (k + 1) [0, 3, 4, 5] (by rw [← wrap_succ hke hvm]; rfl) ⟨(((hE.trans h14).trans h15).trans h17), (q4.ext ((h14.trans h15).trans h17)), hke, fun j h hj => ?_⟩ (by omega)
            rcases Nat.lt_or_eq_of_le (Nat.le_of_lt_succ hj) with hj | rfl
            · exact hpo j h hj
            · simp at hb4; omega
        ·
          refine EC.exit ?_
          refine AQ.thenExit ?_
          refine AQ.thenExit ?_
          refine AQ.blockHit ?_
          refine AQ.blockNormal ?_
          refine AQ.then ?_
          -- region 5  law.go:37
          refine EC.region (fun i => [1, 1, 1].getD i 0) [0, 1, 2] rfl ?_
          refine ER.sil rfl rfl rfl rfl (Sil.move rfl) ?_  -- 5.0: t13 := move
          refine ER.sil rfl rfl rfl rfl (Sil.add rfl rfl) ?_  -- 5.1: t14 := binOp
          refine ER.sil rfl rfl rfl rfl (Sil.assign rfl) ?_  -- 5.2: t3 := assign
          refine ER.nil (fun w18 h18 => ?_)
          have hge : k = (moAt ms (i : Int)).versions.length := by have := of_decide_eq_false hb3; omega
          refine AQ.round (i + 1) [0, 3] (by rw [← wrap_succ hlt hm]; rfl) ⟨hE0.trans ((hE.trans h14).trans h18), hlt, fun j h hj => ?_⟩ (by omega)
          rcases Nat.lt_or_eq_of_le (Nat.le_of_lt_succ hj) with hj | rfl
          · exact hok j h hj
          · rw [← hmi]
            simp only [Bool.or_eq_false_iff, decide_eq_false_iff_not] at hb2
            unfold okM
            rw [decide_eq_true (show _ ≤ 8 by omega), decide_eq_true (show _ ≤ 8 by omega), decide_eq_true (show _ ≤ 8 by omega), Bool.true_and, Bool.true_and, Bool.true_and, List.all_eq_true]
            intro d hd
            obtain ⟨a, ha, rfl⟩ := List.getElem_of_mem hd
            exact decide_eq_true (hpo a ha (by omega))
    ·
      refine EC.exit ?_
      refine AQ.thenExit ?_
      refine AQ.thenExit ?_
      refine AQ.blockHit ?_
      refine AQ.then ?_
      refine EC.seq ?_
      -- region 14  law.go:48
      refine EC.region (fun i => [1].getD i 0) [0] rfl ?_
      refine ER.sil rfl rfl rfl rfl (Sil.assign rfl) ?_  -- 14.0: t2 := assign
      refine ER.nil (fun w19 h19 => ?_)
      refine AQ.then ?_
      refine EC.ret ?_
      refine AQ.ret1 Try.results9 rfl ?_
      have hge : i = ms.length := by have := of_decide_eq_false hb1; omega
      have ht : ms.all okM = true := by
        rw [List.all_eq_true]
        intro y hy
        obtain ⟨a, ha, rfl⟩ := List.getElem_of_mem hy
        exact hok a ha (by omega)
      exact ⟨by rw [fewB, ht, decide_eq_true h8]; rfl, ((hE.trans h5).trans h19)⟩

end Go.Proofs.Ytgagjmapjdeknaa
