/- Bind: the map of the declarations. -/
import Derived.Test.YtgagjmapjdeknaaW2
namespace Go.Proofs.Ytgagjmapjdeknaa
open Go.RowKit Go.XK Go.BindLaw

-- linchpin/version.index: parameters ['[]api.VersionDef'] (free 0), results [('ResultVar.tmp', 2)], 31 slots
set_option maxRecDepth 100000 in
theorem index_any (l : List Vd) (v : Value) (w : World) (hl : Vds w v l) :
    Calls Try.prog 36 [v].toArray w fun e w' => ∃ b m, e = .returned (.map (some b)) ∧ Ext w w' ∧ w.heap.size ≤ b ∧ MRow w' b Value.string m ∧ ∀ s, mget m s = (findV l s).map fun i => Value.int .i64 (i : Int) := by
  have hm := hl.max
  refine calls_of Try.func36 rfl Try.ntmps36 rfl ?_
  refine EC.seq ?_
  -- region 0  version.go:22
  refine EC.region (fun i => [1].getD i 0) [0] rfl ?_
  refine ER.sil rfl rfl rfl rfl (Sil.assign rfl) ?_  -- 0.0: t2 := assign
  refine ER.nil (fun w1 h1 => ?_)
  refine AQ.then ?_
  refine EC.seq ?_
  -- region 1  version.go:23
  refine EC.region (fun i => [2, 1].getD i 0) [0, 1] rfl ?_
  refine ER.st rfl rfl rfl rfl (fun w2 h2 => Stp.makeMap (Value.string) (fun w3 h3 s3 r3 => ⟨h3, ?_⟩))  -- 1.0: t8 := makeMap
  have hq := Nat.le_trans h1.size h2.size
  refine ER.sil rfl rfl rfl rfl (Sil.assign rfl) ?_  -- 1.1: t3 := assign
  refine ER.nil (fun w4 h4 => ?_)
  refine AQ.then ?_
  refine EC.seq ?_
  refine EC.seq ?_
  -- region 2  version.go:24
  refine EC.region (fun i => [1, 1, 1].getD i 0) [0, 1, 2] rfl ?_
  refine ER.sil rfl rfl rfl rfl (Sil.move rfl) ?_  -- 2.0: t9 := move
  refine ER.sil rfl rfl rfl rfl (Sil.lenR Try.underlying43 rfl (Vds.isS hl)) ?_  -- 2.1: t10 := call
  refine ER.sil rfl rfl rfl rfl (Sil.move rfl) ?_  -- 2.2: t11 := move
  refine ER.nil (fun w5 h5 => ?_)
  refine AQ.then ?_
  refine EC.block ?_
  refine EC.loop (σ := Nat) (fun k => [(0, v), (3, .map (some w2.heap.size)), (9, v), (10, .int .i64 (l.length : Int)), (11, .int .i64 (k : Int))]) (fun k wr => Ext w wr ∧ k ≤ l.length ∧ ∃ m, MRow wr w2.heap.size Value.string m ∧ ∀ s, mget m s = (findV (l.take k) s).map fun i => Value.int .i64 (i : Int)) (fun k => l.length - k) 0 [0, 3, 9, 10, 11] rfl ?_ (fun k wr hF => ?_)
  · exact ⟨((((h1.trans h2).trans h3).trans h4).trans h5), Nat.zero_le _, [], (r3.ext (h4.trans h5)), fun s => by rw [List.take_zero]; rfl⟩
  obtain ⟨hE, hk, m, mp, hmp⟩ := hF
  refine EC.seq ?_
  -- region 3  version.go:24
  refine EC.region (fun i => [1].getD i 0) [0] rfl ?_
  refine ER.sil rfl rfl rfl rfl (Sil.lss rfl rfl) ?_  -- 3.0: t12 := binOp
  refine ER.nil (fun w6 h6 => ?_)
  refine AQ.then ?_
  refine EC.seq ?_
  refine EC.cond rfl (fun hb0 => ?_) (fun hb0 => ?_)  -- cond 0: t12
  ·
    have hlt : k < l.length := by have := of_decide_eq_true hb0; omega
    obtain ⟨pv, hat, hpv⟩ := Vds.elem hl hlt
    refine EC.skip ?_
    refine AQ.then ?_
    refine EC.seq ?_
    refine EC.block ?_
    refine EC.seq ?_
    -- region 4  version.go:24
    refine EC.region (fun i => [1, 1, 0, 2, 1, 3].getD i 0) [0, 1, 2, 3, 4, 5] rfl ?_
    refine ER.sil rfl rfl rfl rfl (Sil.move rfl) ?_  -- 4.0: t13 := move
    refine ER.sil rfl rfl rfl rfl (Sil.indexR Try.underlying43 inf68 rfl rfl (Vds.isE (hl.ext (hE.trans h6)) (by omega)) (by omega) (by omega)) ?_  -- 4.1: t14 := indexAddr
    refine ER.ex rfl rfl rfl rfl (Exa.loadAgg (vs := [.string l[k].name, pv]) agg68 rfl (hat.ext (hE.trans h6))) ?_  -- 4.2: t15 := load
    refine ER.st rfl rfl rfl rfl (fun w7 h7 => Stp.alloc inf68 (fun w8 h8 s8 r8 => ⟨h8, ?_⟩))  -- 4.3: t5 := alloc
    refine ER.sil rfl rfl rfl rfl (Sil.assign rfl) ?_  -- 4.4: t4 := assign
    refine ER.bar rfl rfl rfl rfl (fun w9 h9 => Stp.store (by kernel_rfl) rfl rfl (r8.ext h9) rfl (vd_one (Strs.one hpv)) (fun w10 u10 r10 => ?_))  -- 4.5: tNone := store
    have e10 := ((h7.trans h8).trans h9).upd u10 h7.size
    refine ER.nil (fun w11 h11 => ?_)
    refine AQ.then ?_
    refine EC.seq ?_
    -- region 5  version.go:25
    refine EC.region (fun i => [1, 1, 0, 0, 1, 1, 1, 1, 1].getD i 0) [0, 1, 2, 3, 4, 5, 6, 7, 8] rfl ?_
    refine ER.sil rfl rfl rfl rfl (Sil.move rfl) ?_  -- 5.0: t17 := move
    refine ER.sil rfl rfl rfl rfl (Sil.fieldAddr Try.underlying68 rfl inf9 rfl) ?_  -- 5.1: t18 := fieldAddr
    refine ER.ex rfl rfl rfl rfl (Exa.load flat9 rfl ((r10.ext h11).cell rfl)) ?_  -- 5.2: t19 := load
    refine ER.ex rfl rfl rfl rfl (Exa.lookupOk Try.underlying81 (KeyOK.str Try.underlying9) inf3 rfl rfl ((mp.ext ((h6.trans e10).trans h11)))) ?_  -- 5.3: t20 := lookup
    refine ER.sil rfl rfl rfl rfl (Sil.move rfl) ?_  -- 5.4: t16 := move
    refine ER.sil rfl rfl rfl rfl (Sil.extract rfl rfl) ?_  -- 5.5: t21 := extract
    refine ER.sil rfl rfl rfl rfl (Sil.extract rfl rfl) ?_  -- 5.6: t22 := extract
    refine ER.sil rfl rfl rfl rfl (Sil.assign rfl) ?_  -- 5.7: t6 := assign
    refine ER.sil rfl rfl rfl rfl (Sil.assign rfl) ?_  -- 5.8: t7 := assign
    refine ER.nil (fun w12 h12 => ?_)
    refine AQ.then ?_
    refine EC.seq ?_
    -- region 6  version.go:25
    refine EC.region (fun i => [1, 1].getD i 0) [0, 1] rfl ?_
    refine ER.sil rfl rfl rfl rfl (Sil.move rfl) ?_  -- 6.0: t23 := move
    refine ER.sil rfl rfl rfl rfl (Sil.not rfl) ?_  -- 6.1: t24 := unOp
    refine ER.nil (fun w13 h13 => ?_)
    refine AQ.then ?_
    refine EC.cond rfl (fun hb1 => ?_) (fun hb1 => ?_)  -- cond 1: t24
    ·
      have hno : findV (l.take k) l[k].name = none := by
        have := hmp l[k].name
        cases hf : findV (l.take k) l[k].name with
        | none => rfl
        | some i => rw [this, hf] at hb1; simp at hb1
      -- region 7  version.go:26
      refine EC.region (fun i => [1, 1, 0, 1, 3].getD i 0) [0, 1, 2, 3, 4] rfl ?_
      refine ER.sil rfl rfl rfl rfl (Sil.move rfl) ?_  -- 7.0: t25 := move
      refine ER.sil rfl rfl rfl rfl (Sil.fieldAddr Try.underlying68 rfl inf9 rfl) ?_  -- 7.1: t26 := fieldAddr
      refine ER.ex rfl rfl rfl rfl (Exa.load flat9 rfl ((r10.ext ((h11.trans h12).trans h13)).cell rfl)) ?_  -- 7.2: t27 := load
      refine ER.sil rfl rfl rfl rfl (Sil.move rfl) ?_  -- 7.3: t28 := move
      refine ER.bar rfl rfl rfl rfl (fun w14 h14 => Stp.mapUpdate Try.underlying81 (KeyOK.str Try.underlying9) rfl rfl rfl (mp.ext (((((h6.trans e10).trans h11).trans h12).trans h13).trans h14)) (fun w15 u15 m15 => ?_))  -- 7.4: tNone := mapUpdate
      have b15 := ((((((hE.trans h6).trans e10).trans h11).trans h12).trans h13).trans h14).upd u15 (hq)
      refine ER.nil (fun w16 h16 => ?_)
      refine AQ.blockNormal ?_
      refine AQ.then ?_
      -- region 8  version.go:24
      refine EC.region (fun i => [1, 1].getD i 0) [0, 1] rfl ?_
      refine ER.sil rfl rfl rfl rfl (Sil.add rfl rfl) ?_  -- 8.0: t29 := binOp
      refine ER.sil rfl rfl rfl rfl (Sil.move rfl) ?_  -- 8.1: t11 := move
      refine ER.nil (fun w17 h17 => ?_)
      refine AQ.round (k + 1) [0, 3, 9, 10, 11] (by rw [← wrap_succ hlt hm]; rfl) ⟨((b15.trans h16).trans h17), hlt, _, (m15.ext (h16.trans h17)), fun s => ?_⟩ (by omega)
      rw [mget_put, findV_take l s hlt, hmp s]
      by_cases hs : s = l[k].name
      · subst hs
        simp [hno]
      · rw [if_neg hs, if_neg (fun e => hs e.symm), Option.or_none]
    ·
      have hyes : (findV (l.take k) l[k].name).isSome = true := by
        have := hmp l[k].name
        cases hf : findV (l.take k) l[k].name with
        | some i => rfl
        | none => rw [this, hf] at hb1; simp at hb1
      refine EC.skip ?_
      refine AQ.blockNormal ?_
      refine AQ.then ?_
      -- region 8  version.go:24
      refine EC.region (fun i => [1, 1].getD i 0) [0, 1] rfl ?_
      refine ER.sil rfl rfl rfl rfl (Sil.add rfl rfl) ?_  -- 8.0: t29 := binOp
      refine ER.sil rfl rfl rfl rfl (Sil.move rfl) ?_  -- 8.1: t11 := move
      refine ER.nil (fun w18 h18 => ?_)
      refine AQ.round (k + 1) [0, 3, 9, 10, 11] (by rw [← wrap_succ hlt hm]; rfl) ⟨((((((hE.trans h6).trans e10).trans h11).trans h12).trans h13).trans h18), hlt, _, (mp.ext (((((h6.trans e10).trans h11).trans h12).trans h13).trans h18)), fun s => ?_⟩ (by omega)
      rw [findV_take l s hlt, hmp s]
      by_cases hs : l[k].name = s
      · subst hs
        obtain ⟨i, hi⟩ := Option.isSome_iff_exists.1 hyes
        simp [hi]
      · rw [if_neg hs, Option.or_none]
  ·
    refine EC.exit ?_
    refine AQ.thenExit ?_
    refine AQ.thenExit ?_
    refine AQ.blockHit ?_
    refine AQ.then ?_
    refine EC.seq ?_
    -- region 9  version.go:29
    refine EC.region (fun i => [1, 1].getD i 0) [0, 1] rfl ?_
    refine ER.sil rfl rfl rfl rfl (Sil.move rfl) ?_  -- 9.0: t30 := move
    refine ER.sil rfl rfl rfl rfl (Sil.assign rfl) ?_  -- 9.1: t2 := assign
    refine ER.nil (fun w19 h19 => ?_)
    refine AQ.then ?_
    refine EC.ret ?_
    refine AQ.ret1 Try.results36 rfl ?_
    have hge : k = l.length := by have := of_decide_eq_false hb0; omega
    subst hge
    rw [List.take_length] at hmp
    exact ⟨_, m, rfl, ((hE.trans h6).trans h19), hq, (mp.ext (h6.trans h19)), hmp⟩

end Go.Proofs.Ytgagjmapjdeknaa
