/- Bind: what an image offers. -/
import Derived.Test.YtgagjmapjdeknaaW8
namespace Go.Proofs.Ytgagjmapjdeknaa
open Go.RowKit Go.XK Go.BindLaw

-- linchpin/bind.offers: parameters ['api.Image', 'string', 'string'] (free 0), results [('ResultVar.tmp', 6), ('ResultVar.tmp', 7), ('ResultVar.tmp', 8)], 42 slots
set_option maxRecDepth 100000 in
theorem offers_any (ics : List Value) (y : Mo) (name want : ByteArray) (w : World) (hic : ImC w ics y.exports y.versions) :
    Calls Try.prog 23 [.agg ics.toArray, .string name, .string want].toArray w fun e w' => e = .returned (.tuple #[.int .i64 (oExp y name want), .int .i64 (oWhy y name want), .bool (oOk y name want)]) ∧ Ext w w' := by
  obtain ⟨ev, vv, hev, hex, hvv, hvd⟩ := hic
  have hm := hex.max
  refine calls_of Try.func23 rfl Try.ntmps23 rfl ?_
  refine EC.seq ?_
  -- region 0  bind.go:91
  refine EC.region (fun i => [2, 1, 1, 1].getD i 0) [0, 1, 2, 3] rfl ?_
  refine ER.st rfl rfl rfl rfl (fun w1 h1 => Stp.box rfl (fun w2 h2 s2 r2 => ⟨h2, ?_⟩))  -- 0.0: t3 := box
  have n0 := h1.size
  refine ER.sil rfl rfl rfl rfl (Sil.assign rfl) ?_  -- 0.1: t6 := assign
  refine ER.sil rfl rfl rfl rfl (Sil.assign rfl) ?_  -- 0.2: t7 := assign
  refine ER.sil rfl rfl rfl rfl (Sil.assign rfl) ?_  -- 0.3: t8 := assign
  refine ER.nil (fun w3 h3 => ?_)
  refine AQ.then ?_
  refine EC.seq ?_
  refine EC.seq ?_
  -- region 1  bind.go:92
  refine EC.region (fun i => [1, 0, 1, 1].getD i 0) [0, 1, 2, 3] rfl ?_
  refine ER.sil rfl rfl rfl rfl (Sil.fieldAddr Try.underlying54 rfl inf39 rfl) ?_  -- 1.0: t11 := fieldAddr
  refine ER.ex rfl rfl rfl rfl (Exa.load flat39 rfl (((r2.ext h3)).cell hev)) ?_  -- 1.1: t12 := load
  refine ER.sil rfl rfl rfl rfl (Sil.lenR Try.underlying39 rfl (Exs.isS hex)) ?_  -- 1.2: t13 := call
  refine ER.sil rfl rfl rfl rfl (Sil.move rfl) ?_  -- 1.3: t14 := move
  refine ER.nil (fun w4 h4 => ?_)
  refine AQ.then ?_
  refine EC.block ?_
  refine EC.loop (σ := Nat) (fun k => [(1, .string name), (2, .string want), (3, ptr w1.heap.size), (7, .int .i64 (whyTo y name want k)), (12, ev), (13, .int .i64 (y.exports.length : Int)), (14, .int .i64 (k : Int))]) (fun k wr => Ext w wr ∧ Row wr w1.heap.size 54 ics ∧ k ≤ y.exports.length ∧ ∀ j (h : j < y.exports.length), j < k → isOff y.versions name want y.exports[j] = false) (fun k => y.exports.length - k) 0 [1, 2, 3, 7, 12, 13, 14] rfl ?_ (fun k wr hF => ?_)
  · exact ⟨(((h1.trans h2).trans h3).trans h4), (r2.ext (h3.trans h4)), Nat.zero_le _, fun j _ h => absurd h (Nat.not_lt_zero j)⟩
  obtain ⟨hE, q3, hk, hok⟩ := hF
  refine EC.seq ?_
  -- region 2  bind.go:92
  refine EC.region (fun i => [1].getD i 0) [0] rfl ?_
  refine ER.sil rfl rfl rfl rfl (Sil.lss rfl rfl) ?_  -- 2.0: t15 := binOp
  refine ER.nil (fun w5 h5 => ?_)
  refine AQ.then ?_
  refine EC.seq ?_
  refine EC.cond rfl (fun hb0 => ?_) (fun hb0 => ?_)  -- cond 0: t15
  ·
    have hlt : k < y.exports.length := by have := of_decide_eq_true hb0; omega
    obtain ⟨cs, hcl, hat, hco⟩ := hex.elem hlt
    have hwn := whyTo_next (name := name) (want := want) hlt
    refine EC.skip ?_
    refine AQ.then ?_
    refine EC.seq ?_
    refine EC.block ?_
    refine EC.seq ?_
    -- region 3  bind.go:92
    refine EC.region (fun i => [1, 1, 0, 2, 1, 3].getD i 0) [0, 1, 2, 3, 4, 5] rfl ?_
    refine ER.sil rfl rfl rfl rfl (Sil.move rfl) ?_  -- 3.0: t16 := move
    refine ER.sil rfl rfl rfl rfl (Sil.indexR Try.underlying39 inf62 rfl rfl (Exs.isE hex (by omega)) (by omega) (by omega)) ?_  -- 3.1: t17 := indexAddr
    refine ER.ex rfl rfl rfl rfl (Exa.loadAgg (vs := cs) (by rw [hcl]; exact agg62) rfl (hat.ext (hE.trans h5))) ?_  -- 3.2: t18 := load
    refine ER.st rfl rfl rfl rfl (fun w6 h6 => Stp.alloc inf62 (fun w7 h7 s7 r7 => ⟨h7, ?_⟩))  -- 3.3: t10 := alloc
    refine ER.sil rfl rfl rfl rfl (Sil.assign rfl) ?_  -- 3.4: t9 := assign
    refine ER.bar rfl rfl rfl rfl (fun w8 h8 => Stp.store (ex_sz hcl) rfl rfl (r7.ext h8) (ag_len (by rw [hcl]; rfl)) (mo_one hco.one) (fun w9 u9 r9 => ?_))  -- 3.5: tNone := store
    have e9 := ((h6.trans h7).trans h8).upd u9 h6.size
    refine ER.nil (fun w10 h10 => ?_)
    refine AQ.then ?_
    refine EC.seq ?_
    refine EC.seq ?_
    -- region 4  bind.go:93
    refine EC.region (fun i => [1, 0, 1, 1].getD i 0) [0, 1, 2, 3] rfl ?_
    refine ER.sil rfl rfl rfl rfl (Sil.fieldAddr Try.underlying62 rfl inf9 rfl) ?_  -- 4.0: t19 := fieldAddr
    refine ER.ex rfl rfl rfl rfl (Exa.load flat9 rfl (((r9.ext h10)).cell hco.2.1)) ?_  -- 4.1: t20 := load
    refine ER.sil rfl rfl rfl rfl (Sil.move rfl) ?_  -- 4.2: t21 := move
    refine ER.sil rfl rfl rfl rfl (Sil.sneq rfl rfl) ?_  -- 4.3: t22 := binOp
    refine ER.nil (fun w11 h11 => ?_)
    refine AQ.then ?_
    refine EC.cond rfl (fun hb1 => ?_) (fun hb1 => ?_)  -- cond 1: t22
    ·
      have hne : y.exports[k].name ≠ name := by simpa using hb1
      refine EC.exit ?_
      refine AQ.thenExit ?_
      refine AQ.blockHit ?_
      refine AQ.then ?_
      -- region 10  bind.go:92
      refine EC.region (fun i => [1, 1].getD i 0) [0, 1] rfl ?_
      refine ER.sil rfl rfl rfl rfl (Sil.add rfl rfl) ?_  -- 10.0: t40 := binOp
      refine ER.sil rfl rfl rfl rfl (Sil.move rfl) ?_  -- 10.1: t14 := move
      refine ER.nil (fun w12 h12 => ?_)
      have hno := isOff_ne (vd := y.versions) (want := want) hne
      rw [if_neg hne] at hwn
      exact AQ.round (k + 1) [1, 2, 3, 7, 12, 13, 14] (by rw [hwn, ← wrap_succ hlt hm]; rfl) ⟨(((((hE.trans h5).trans e9).trans h10).trans h11).trans h12), (q3.ext ((((h5.trans e9).trans h10).trans h11).trans h12)), hlt, (fun j h hj => by
        rcases Nat.lt_or_eq_of_le (Nat.le_of_lt_succ hj) with hj | rfl
        · exact hok j h hj
        · exact hno)⟩ (by omega)
    ·
      have hne : y.exports[k].name = name := by simpa using hb1
      refine EC.skip ?_
      refine AQ.then ?_
      refine EC.seq ?_
      refine EC.seq ?_
      -- region 5  bind.go:96
      refine EC.region (fun i => [1, 1].getD i 0) [0, 1] rfl ?_
      refine ER.sil rfl rfl rfl rfl (Sil.move rfl) ?_  -- 5.0: t23 := move
      refine ER.sil rfl rfl rfl rfl (Sil.seql rfl rfl) ?_  -- 5.1: t24 := binOp
      refine ER.nil (fun w13 h13 => ?_)
      refine AQ.then ?_
      refine EC.cond rfl (fun hb2 => ?_) (fun hb2 => ?_)  -- cond 2: t24
      ·
        have hw : want = ByteArray.empty := of_decide_eq_true hb2
        -- region 6  bind.go:97
        refine EC.draw (fun i => [1, 0, 1, 1, 0, 1, 1, 1, 1].getD i 0) [0, 1, 2, 3, 4, 5, 6, 7, 8] (by kernel_rfl) (by kernel_rfl) ?_
        refine ER.sil rfl rfl rfl rfl (Sil.fieldAddr Try.underlying62 rfl inf4 rfl) ?_  -- 6.0: t25 := fieldAddr
        refine ER.ex rfl rfl rfl rfl (Exa.load flat4 rfl (((r9.ext ((h10.trans h11).trans h13))).cell hco.2.2.2.1)) ?_  -- 6.1: t26 := load
        refine ER.sil rfl rfl rfl rfl (Sil.move rfl) ?_  -- 6.2: t27 := move
        refine ER.silG rfl rfl rfl rfl rfl rfl (fun hc => Sil.fieldAddr Try.underlying62 rfl inf9 rfl) ?_  -- 6.3: t28 := fieldAddr
        refine ER.exG rfl rfl rfl rfl rfl rfl (fun hc => Exa.load flat9 (congrArg some (sel_eq hc _)) (((r9.ext ((h10.trans h11).trans h13))).cell hco.2.2.1)) ?_  -- 6.4: t29 := load
        refine ER.silG rfl rfl rfl rfl rfl rfl (fun hc => Sil.seql (congrArg some (sel_eq hc _)) rfl) ?_  -- 6.5: t30 := binOp
        refine ER.sil rfl rfl rfl rfl (Sil.pickOr rfl rfl rfl) ?_  -- 6.6: t31 := pick
        refine ER.sil rfl rfl rfl rfl (Sil.assign rfl) ?_  -- 6.7: t7 := assign
        refine ER.sil rfl rfl rfl rfl (Sil.assign rfl) ?_  -- 6.8: t8 := assign
        refine ER.nil (fun w14 h14 => ?_)
        refine AQ.then ?_
        refine EC.seq ?_
        -- region 8  bind.go:101
        refine EC.region (fun i => [1].getD i 0) [0] rfl ?_
        refine ER.sil rfl rfl rfl rfl (Sil.move rfl) ?_  -- 8.0: t38 := move
        refine ER.nil (fun w15 h15 => ?_)
        refine AQ.then ?_
        refine EC.cond rfl (fun hb3 => ?_) (fun hb3 => ?_)  -- cond 3: t38
        ·
          refine EC.seq ?_
          -- region 9  bind.go:102
          refine EC.region (fun i => [1, 1, 1, 1].getD i 0) [0, 1, 2, 3] rfl ?_
          refine ER.sil rfl rfl rfl rfl (Sil.move rfl) ?_  -- 9.0: t39 := move
          refine ER.sil rfl rfl rfl rfl (Sil.assign rfl) ?_  -- 9.1: t6 := assign
          refine ER.sil rfl rfl rfl rfl (Sil.assign rfl) ?_  -- 9.2: t7 := assign
          refine ER.sil rfl rfl rfl rfl (Sil.assign rfl) ?_  -- 9.3: t8 := assign
          refine ER.nil (fun w16 h16 => ?_)
          refine AQ.then ?_
          refine EC.ret ?_
          refine AQ.blockRet ?_
          refine AQ.thenRet ?_
          refine AQ.thenRet ?_
          refine AQ.blockRet ?_
          refine AQ.thenRet ?_
          refine AQ.ret3 Try.results23 rfl rfl rfl ?_
          have hx := offX_hit hlt (by rw [isOff_eq hne, fits, if_pos hw]; exact hb3) hok
          exact ⟨by simp [oExp, oOk, oWhy, hx], ((((((((hE.trans h5).trans e9).trans h10).trans h11).trans h13).trans h14).trans h15).trans h16)⟩
        ·
          refine EC.skip ?_
          refine AQ.blockNormal ?_
          refine AQ.then ?_
          -- region 10  bind.go:92
          refine EC.region (fun i => [1, 1].getD i 0) [0, 1] rfl ?_
          refine ER.sil rfl rfl rfl rfl (Sil.add rfl rfl) ?_  -- 10.0: t40 := binOp
          refine ER.sil rfl rfl rfl rfl (Sil.move rfl) ?_  -- 10.1: t14 := move
          refine ER.nil (fun w17 h17 => ?_)
          have hno : isOff y.versions name want y.exports[k] = false := by rw [isOff_eq hne, fits, if_pos hw]; exact hb3
          rw [if_pos hne, if_pos hw] at hwn
          exact AQ.round (k + 1) [1, 2, 3, 7, 12, 13, 14] (by rw [hwn, ← wrap_succ hlt hm]; rfl) ⟨((((((((hE.trans h5).trans e9).trans h10).trans h11).trans h13).trans h14).trans h15).trans h17), (q3.ext (((((((h5.trans e9).trans h10).trans h11).trans h13).trans h14).trans h15).trans h17)), hlt, (fun j h hj => by
            rcases Nat.lt_or_eq_of_le (Nat.le_of_lt_succ hj) with hj | rfl
            · exact hok j h hj
            · exact hno)⟩ (by omega)
      ·
        have hw : ¬ want = ByteArray.empty := of_decide_eq_false hb2
        -- region 7  bind.go:99
        refine EC.region (fun i => [1, 0, 1, 0, 1, 0, 1, 1].getD i 0) [0, 1, 2, 3, 4, 5, 6, 7] rfl ?_
        refine ER.sil rfl rfl rfl rfl (Sil.fieldAddr Try.underlying54 rfl inf43 rfl) ?_  -- 7.0: t32 := fieldAddr
        refine ER.ex rfl rfl rfl rfl (Exa.load flat43 rfl (((q3.ext ((((h5.trans e9).trans h10).trans h11).trans h13))).cell hvv)) ?_  -- 7.1: t33 := load
        refine ER.sil rfl rfl rfl rfl (Sil.fieldAddr Try.underlying62 rfl inf9 rfl) ?_  -- 7.2: t34 := fieldAddr
        refine ER.ex rfl rfl rfl rfl (Exa.load flat9 rfl (((r9.ext ((h10.trans h11).trans h13))).cell hco.2.2.1)) ?_  -- 7.3: t35 := load
        refine ER.sil rfl rfl rfl rfl (Sil.move rfl) ?_  -- 7.4: t36 := move
        refine ER.ex rfl rfl rfl rfl (Exa.call fok27 rfl rfl (fun wx hx => (serves_any y.versions vv y.exports[k].version want wx (hvd.ext ((((((hE.trans h5).trans e9).trans h10).trans h11).trans h13).trans hx))))) ?_  -- 7.5: t37 := call
        refine ER.sil rfl rfl rfl rfl (Sil.assign rfl) ?_  -- 7.6: t7 := assign
        refine ER.sil rfl rfl rfl rfl (Sil.assign rfl) ?_  -- 7.7: t8 := assign
        refine ER.nil (fun w18 h18 => ?_)
        refine AQ.then ?_
        refine EC.seq ?_
        -- region 8  bind.go:101
        refine EC.region (fun i => [1].getD i 0) [0] rfl ?_
        refine ER.sil rfl rfl rfl rfl (Sil.move rfl) ?_  -- 8.0: t38 := move
        refine ER.nil (fun w19 h19 => ?_)
        refine AQ.then ?_
        refine EC.cond rfl (fun hb4 => ?_) (fun hb4 => ?_)  -- cond 4: t38
        ·
          refine EC.seq ?_
          -- region 9  bind.go:102
          refine EC.region (fun i => [1, 1, 1, 1].getD i 0) [0, 1, 2, 3] rfl ?_
          refine ER.sil rfl rfl rfl rfl (Sil.move rfl) ?_  -- 9.0: t39 := move
          refine ER.sil rfl rfl rfl rfl (Sil.assign rfl) ?_  -- 9.1: t6 := assign
          refine ER.sil rfl rfl rfl rfl (Sil.assign rfl) ?_  -- 9.2: t7 := assign
          refine ER.sil rfl rfl rfl rfl (Sil.assign rfl) ?_  -- 9.3: t8 := assign
          refine ER.nil (fun w20 h20 => ?_)
          refine AQ.then ?_
          refine EC.ret ?_
          refine AQ.blockRet ?_
          refine AQ.thenRet ?_
          refine AQ.thenRet ?_
          refine AQ.blockRet ?_
          refine AQ.thenRet ?_
          refine AQ.ret3 Try.results23 rfl rfl rfl ?_
          have hx := offX_hit hlt (by rw [isOff_eq hne, fits, if_neg hw]; exact hb4) hok
          exact ⟨by simp [oExp, oOk, oWhy, hx], ((((((((hE.trans h5).trans e9).trans h10).trans h11).trans h13).trans h18).trans h19).trans h20)⟩
        ·
          refine EC.skip ?_
          refine AQ.blockNormal ?_
          refine AQ.then ?_
          -- region 10  bind.go:92
          refine EC.region (fun i => [1, 1].getD i 0) [0, 1] rfl ?_
          refine ER.sil rfl rfl rfl rfl (Sil.add rfl rfl) ?_  -- 10.0: t40 := binOp
          refine ER.sil rfl rfl rfl rfl (Sil.move rfl) ?_  -- 10.1: t14 := move
          refine ER.nil (fun w21 h21 => ?_)
          have hno : isOff y.versions name want y.exports[k] = false := by rw [isOff_eq hne, fits, if_neg hw]; exact hb4
          rw [if_pos hne, if_neg hw] at hwn
          exact AQ.round (k + 1) [1, 2, 3, 7, 12, 13, 14] (by rw [hwn, ← wrap_succ hlt hm]; rfl) ⟨((((((((hE.trans h5).trans e9).trans h10).trans h11).trans h13).trans h18).trans h19).trans h21), (q3.ext (((((((h5.trans e9).trans h10).trans h11).trans h13).trans h18).trans h19).trans h21)), hlt, (fun j h hj => by
            rcases Nat.lt_or_eq_of_le (Nat.le_of_lt_succ hj) with hj | rfl
            · exact hok j h hj
            · exact hno)⟩ (by omega)
  ·
    refine EC.exit ?_
    refine AQ.thenExit ?_
    refine AQ.thenExit ?_
    refine AQ.blockHit ?_
    refine AQ.then ?_
    refine EC.seq ?_
    -- region 11  bind.go:105
    refine EC.region (fun i => [1, 1, 1, 1].getD i 0) [0, 1, 2, 3] rfl ?_
    refine ER.sil rfl rfl rfl rfl (Sil.move rfl) ?_  -- 11.0: t41 := move
    refine ER.sil rfl rfl rfl rfl (Sil.assign rfl) ?_  -- 11.1: t6 := assign
    refine ER.sil rfl rfl rfl rfl (Sil.assign rfl) ?_  -- 11.2: t7 := assign
    refine ER.sil rfl rfl rfl rfl (Sil.assign rfl) ?_  -- 11.3: t8 := assign
    refine ER.nil (fun w22 h22 => ?_)
    refine AQ.then ?_
    refine EC.ret ?_
    refine AQ.ret3 Try.results23 rfl rfl rfl ?_
    have hge : k = y.exports.length := by have := of_decide_eq_false hb0; omega
    subst hge
    have hx := offX_miss fun j h => hok j h h
    exact ⟨by simp [oExp, oOk, oWhy, hx, whyX], ((hE.trans h5).trans h22)⟩

end Go.Proofs.Ytgagjmapjdeknaa
