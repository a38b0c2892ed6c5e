/- Locate: tests, the node. -/
import Derived.Test.YtcgapppamhffjaaBase
namespace Go.Proofs.Ytcgapppamhffjaa
open Go.RowKit Go.XK Go.LocateLaw

/-- A test: a function that tells p of a struct. -/
def PredC {α : Type} (g : Nat) (caps : List Value) (f : α → List Value) (p : α → Bool) (w0 : World) : Prop := ∀ x w, Ext w0 w → Calls Try.prog g ([Value.agg (f x).toArray] ++ caps).toArray w fun e w' => e = .returned (.bool (p x)) ∧ Ext w w'
theorem PredC.ext {α : Type} {g : Nat} {caps : List Value} {f : α → List Value} {p : α → Bool} {w0 w1 : World} (h : PredC g caps f p w0) (he : Ext w0 w1) : PredC g caps f p w1 := fun x w hx => h x w (he.trans hx)

-- linchpin/locate.node$1: parameters ['api.Span'] (free 1), results [('ResultVar.tmp', 3)], 17 slots
set_option maxRecDepth 100000 in
theorem node1_any (x : Sp) (p : Int) (b1 : Nat) (w : World) (r1 : Row w b1 3 [.int .i64 p]) :
    Calls Try.prog 42 [.agg (spC x).toArray, ptr b1].toArray w fun e w' => e = .returned (.bool (inSp p x)) ∧ Ext w w' := by
  refine calls_of Try.func42 rfl Try.ntmps42 rfl ?_
  refine EC.seq ?_
  -- region 0  locate.go:13
  refine EC.region (fun i => [2, 1].getD i 0) [0, 1] rfl ?_
  refine ER.st rfl rfl rfl rfl (fun w1 h1 => Stp.box rfl (fun w2 h2 s2 r2 => ⟨h2, ?_⟩))  -- 0.0: t2 := box
  refine ER.sil rfl rfl rfl rfl (Sil.assign rfl) ?_  -- 0.1: t3 := assign
  refine ER.nil (fun w3 h3 => ?_)
  refine AQ.then ?_
  refine EC.seq ?_
  -- region 1  locate.go:13
  refine EC.region (fun i => [1, 0, 0, 1, 1, 0, 1, 0, 1, 0, 1, 1, 1, 1].getD i 0) [0, 1, 2, 3, 4, 5, 6, 7, 8, 9, 10, 11, 12, 13] rfl ?_
  refine ER.sil rfl rfl rfl rfl (Sil.fieldAddr Try.underlying61 rfl inf3 rfl) ?_  -- 1.0: t4 := fieldAddr
  refine ER.ex rfl rfl rfl rfl (Exa.load flat3 rfl ((r2.ext h3).cell rfl)) ?_  -- 1.1: t5 := load
  refine ER.ex rfl rfl rfl rfl (Exa.load flat3 rfl ((r1.ext ((h1.trans h2).trans h3)).cell rfl)) ?_  -- 1.2: t6 := load
  refine ER.sil rfl rfl rfl rfl (Sil.leq rfl rfl) ?_  -- 1.3: t7 := binOp
  refine ER.sil rfl rfl rfl rfl (Sil.move rfl) ?_  -- 1.4: t8 := move
  refine ER.exG rfl rfl rfl rfl rfl rfl (fun hc => Exa.load flat3 rfl ((r1.ext ((h1.trans h2).trans h3)).cell rfl)) ?_  -- 1.5: t9 := load
  refine ER.silG rfl rfl rfl rfl rfl rfl (fun hc => Sil.fieldAddr Try.underlying61 rfl inf3 rfl) ?_  -- 1.6: t10 := fieldAddr
  refine ER.exG rfl rfl rfl rfl rfl rfl (fun hc => Exa.load flat3 (congrArg some (sel_eq hc _)) ((r2.ext h3).cell rfl)) ?_  -- 1.7: t11 := load
  refine ER.silG rfl rfl rfl rfl rfl rfl (fun hc => Sil.fieldAddr Try.underlying61 rfl inf3 rfl) ?_  -- 1.8: t12 := fieldAddr
  refine ER.exG rfl rfl rfl rfl rfl rfl (fun hc => Exa.load flat3 (congrArg some (sel_eq hc _)) ((r2.ext h3).cell rfl)) ?_  -- 1.9: t13 := load
  refine ER.silG rfl rfl rfl rfl rfl rfl (fun hc => Sil.add (congrArg some (sel_eq hc _)) (congrArg some (sel_eq hc _))) ?_  -- 1.10: t14 := binOp
  refine ER.silG rfl rfl rfl rfl rfl rfl (fun hc => Sil.lss (congrArg some (sel_eq hc _)) (congrArg some (sel_eq hc _))) ?_  -- 1.11: t15 := binOp
  refine ER.sil rfl rfl rfl rfl (Sil.pickAnd rfl rfl rfl) ?_  -- 1.12: t16 := pick
  refine ER.sil rfl rfl rfl rfl (Sil.assign rfl) ?_  -- 1.13: t3 := assign
  refine ER.nil (fun w4 h4 => ?_)
  refine AQ.then ?_
  refine EC.ret ?_
  refine AQ.ret1 Try.results42 rfl ?_
  exact ⟨rfl, (((h1.trans h2).trans h3).trans h4)⟩

-- slices.IndexFunc[[]linchpin/api.Span,linchpin/api.Span]: parameters ['[]api.Span', 'func(api.Span) bool'] (free 0), results [('ResultVar.tmp', 4)], 19 slots
set_option maxRecDepth 100000 in
theorem index_spC (l : List Sp) (v : Value) (g : Nat) (caps : List Value) (p : Sp → Bool) (w : World) (hl : LR 2 spC w v l) (hg : FnOK Try.prog g) (hp : PredC g caps spC p w) :
    Calls Try.prog 41 [v, .func (.func g) #[] caps.toArray].toArray w fun e w' => e = .returned (.int .i64 (idxI p l)) ∧ Ext w w' := by
  have hm := hl.max
  refine calls_of Try.func41 rfl Try.ntmps41 rfl ?_
  refine EC.seq ?_
  -- region 0  slices.go:107
  refine EC.region (fun i => [1].getD i 0) [0] rfl ?_
  refine ER.sil rfl rfl rfl rfl (Sil.assign rfl) ?_  -- 0.0: t4 := assign
  refine ER.nil (fun w1 h1 => ?_)
  refine AQ.then ?_
  refine EC.seq ?_
  refine EC.seq ?_
  -- region 1  slices.go:108
  refine EC.region (fun i => [1, 1, 1].getD i 0) [0, 1, 2] rfl ?_
  refine ER.sil rfl rfl rfl rfl (Sil.move rfl) ?_  -- 1.0: t6 := move
  refine ER.sil rfl rfl rfl rfl (Sil.lenR Try.underlying31 rfl (hl.isS)) ?_  -- 1.1: t7 := call
  refine ER.sil rfl rfl rfl rfl (Sil.move rfl) ?_  -- 1.2: t8 := move
  refine ER.nil (fun w2 h2 => ?_)
  refine AQ.then ?_
  refine EC.block ?_
  refine EC.loop (σ := Nat) (fun k => [(0, v), (1, .func (.func g) #[] caps.toArray), (7, .int .i64 (l.length : Int)), (8, .int .i64 (k : Int))]) (fun k wr => Ext w wr ∧ k ≤ l.length ∧ ∀ j (h : j < l.length), j < k → p l[j] = false) (fun k => l.length - k) 0 [0, 1, 7, 8] rfl ?_ (fun k wr hF => ?_)
  · exact ⟨(h1.trans h2), Nat.zero_le _, fun j _ h => absurd h (Nat.not_lt_zero j)⟩
  obtain ⟨hE, hk, hok⟩ := hF
  refine EC.seq ?_
  -- region 2  slices.go:108
  refine EC.region (fun i => [1].getD i 0) [0] rfl ?_
  refine ER.sil rfl rfl rfl rfl (Sil.lss rfl rfl) ?_  -- 2.0: t9 := binOp
  refine ER.nil (fun w3 h3 => ?_)
  refine AQ.then ?_
  refine EC.seq ?_
  refine EC.cond rfl (fun hb0 => ?_) (fun hb0 => ?_)  -- cond 0: t9
  ·
    have hlt : k < l.length := by have := of_decide_eq_true hb0; omega
    refine EC.skip ?_
    refine AQ.then ?_
    refine EC.seq ?_
    refine EC.block ?_
    refine EC.seq ?_
    -- region 3  slices.go:108
    refine EC.region (fun i => [1, 1].getD i 0) [0, 1] rfl ?_
    refine ER.sil rfl rfl rfl rfl (Sil.move rfl) ?_  -- 3.0: t10 := move
    refine ER.sil rfl rfl rfl rfl (Sil.assign rfl) ?_  -- 3.1: t5 := assign
    refine ER.nil (fun w4 h4 => ?_)
    refine AQ.then ?_
    refine EC.seq ?_
    -- region 4  slices.go:109
    refine EC.region (fun i => [1, 1, 1, 1, 0, 0].getD i 0) [0, 1, 2, 3, 4, 5] rfl ?_
    refine ER.sil rfl rfl rfl rfl (Sil.move rfl) ?_  -- 4.0: t11 := move
    refine ER.sil rfl rfl rfl rfl (Sil.move rfl) ?_  -- 4.1: t12 := move
    refine ER.sil rfl rfl rfl rfl (Sil.move rfl) ?_  -- 4.2: t13 := move
    refine ER.sil rfl rfl rfl rfl (Sil.indexR Try.underlying31 inf61 rfl rfl (hl.isE (by omega)) (by omega) (by omega)) ?_  -- 4.3: t14 := indexAddr
    refine ER.ex rfl rfl rfl rfl (Exa.loadAgg (vs := (spC (l[k]))) agg61 rfl ((hl.at hlt).ext ((hE.trans h3).trans h4))) ?_  -- 4.4: t15 := load
    refine ER.ex rfl rfl rfl rfl (Exa.callC hg rfl rfl (fun wx hx => (hp l[k] wx (((hE.trans h3).trans h4).trans hx)))) ?_  -- 4.5: t16 := call
    refine ER.nil (fun w5 h5 => ?_)
    refine AQ.then ?_
    refine EC.cond rfl (fun hb1 => ?_) (fun hb1 => ?_)  -- cond 1: t16
    ·
      refine EC.seq ?_
      -- region 5  slices.go:110
      refine EC.region (fun i => [1, 1].getD i 0) [0, 1] rfl ?_
      refine ER.sil rfl rfl rfl rfl (Sil.move rfl) ?_  -- 5.0: t17 := move
      refine ER.sil rfl rfl rfl rfl (Sil.assign rfl) ?_  -- 5.1: t4 := assign
      refine ER.nil (fun w6 h6 => ?_)
      refine AQ.then ?_
      refine EC.ret ?_
      refine AQ.blockRet ?_
      refine AQ.thenRet ?_
      refine AQ.thenRet ?_
      refine AQ.blockRet ?_
      refine AQ.thenRet ?_
      refine AQ.ret1 Try.results41 rfl ?_
      exact ⟨by rw [idxI_hit hlt hb1 hok], ((((hE.trans h3).trans h4).trans h5).trans h6)⟩
    ·
      refine EC.skip ?_
      refine AQ.blockNormal ?_
      refine AQ.then ?_
      -- region 6  slices.go:108
      refine EC.region (fun i => [1, 1].getD i 0) [0, 1] rfl ?_
      refine ER.sil rfl rfl rfl rfl (Sil.add rfl rfl) ?_  -- 6.0: t18 := binOp
      refine ER.sil rfl rfl rfl rfl (Sil.move rfl) ?_  -- 6.1: t8 := move
      refine ER.nil (fun w7 h7 => ?_)
      refine AQ.round (k + 1) [0, 1, 7, 8] (by rw [← wrap_succ hlt hm]; rfl) ⟨((((hE.trans h3).trans h4).trans h5).trans h7), hlt, fun j h hj => ?_⟩ (by omega)
      rcases Nat.lt_or_eq_of_le (Nat.le_of_lt_succ hj) with hj | rfl
      · exact hok j h hj
      · exact hb1
  ·
    refine EC.exit ?_
    refine AQ.thenExit ?_
    refine AQ.thenExit ?_
    refine AQ.blockHit ?_
    refine AQ.then ?_
    refine EC.seq ?_
    -- region 7  slices.go:113
    refine EC.region (fun i => [1].getD i 0) [0] rfl ?_
    refine ER.sil rfl rfl rfl rfl (Sil.assign rfl) ?_  -- 7.0: t4 := assign
    refine ER.nil (fun w8 h8 => ?_)
    refine AQ.then ?_
    refine EC.ret ?_
    refine AQ.ret1 Try.results41 rfl ?_
    have hge : k = l.length := by have := of_decide_eq_false hb0; omega
    subst hge
    exact ⟨by rw [idxI_miss fun j h => hok j h h], ((hE.trans h3).trans h8)⟩

-- linchpin/locate.node: parameters ['api.Image', 'int'] (free 0), results [('ResultVar.cell', 4, 61), ('ResultVar.tmp', 5)], 21 slots
set_option maxRecDepth 100000 in
theorem node_any (cs : List Value) (inf : Inf) (p : Int) (w : World) (hi : InfC w cs inf) :
    Calls Try.prog 19 [.agg cs.toArray, .int .i64 p].toArray w fun e w' => e = .returned (.tuple #[.agg (spC (spZ (nodeO inf p))).toArray, .bool (nodeO inf p).isSome]) ∧ Ext w w' := by
  obtain ⟨ev, hev, hel⟩ := hi.2.2.2.1
  have hm := hel.max
  refine calls_of Try.func19 rfl Try.ntmps19 rfl ?_
  refine EC.seq ?_
  -- region 0  locate.go:12
  refine EC.region (fun i => [2, 2, 2, 1].getD i 0) [0, 1, 2, 3] rfl ?_
  refine ER.st rfl rfl rfl rfl (fun w1 h1 => Stp.box rfl (fun w2 h2 s2 r2 => ⟨h2, ?_⟩))  -- 0.0: t2 := box
  refine ER.st rfl rfl rfl rfl (fun w3 h3 => Stp.box rfl (fun w4 h4 s4 r4 => ⟨h4, ?_⟩))  -- 0.1: t3 := box
  refine ER.st rfl rfl rfl rfl (fun w5 h5 => Stp.alloc inf61 (fun w6 h6 s6 r6 => ⟨h6, ?_⟩))  -- 0.2: t4 := alloc
  refine ER.sil rfl rfl rfl rfl (Sil.assign rfl) ?_  -- 0.3: t5 := assign
  refine ER.nil (fun w7 h7 => ?_)
  refine AQ.then ?_
  refine EC.seq ?_
  -- region 1  locate.go:13
  refine EC.region (fun i => [1, 1, 0, 1, 0, 1].getD i 0) [0, 1, 2, 3, 4, 5] rfl ?_
  refine ER.sil rfl rfl rfl rfl (Sil.fieldAddr Try.underlying39 rfl inf36 rfl) ?_  -- 1.0: t7 := fieldAddr
  refine ER.sil rfl rfl rfl rfl (Sil.fieldAddr Try.underlying36 rfl inf31 rfl) ?_  -- 1.1: t8 := fieldAddr
  refine ER.ex rfl rfl rfl rfl (Exa.load flat31 rfl (((r2.ext ((((h3.trans h4).trans h5).trans h6).trans h7))).cell hev)) ?_  -- 1.2: t9 := load
  refine ER.sil rfl rfl rfl rfl (Sil.makeFunc rfl rfl) ?_  -- 1.3: t10 := makeFunc
  refine ER.ex rfl rfl rfl rfl (Exa.call fok41 rfl rfl (fun wx hx => (index_spC inf.ends ev 42 [ptr w3.heap.size] (inSp p) wx (hel.ext (((((((h1.trans h2).trans h3).trans h4).trans h5).trans h6).trans h7).trans hx)) fok42 (fun x w9 h9 => node1_any x p w3.heap.size w9 (((r4.ext ((h5.trans h6).trans h7))).ext (hx.trans h9)))))) ?_  -- 1.4: t11 := call
  refine ER.sil rfl rfl rfl rfl (Sil.assign rfl) ?_  -- 1.5: t6 := assign
  refine ER.nil (fun w8 h8 => ?_)
  refine AQ.then ?_
  refine EC.seq ?_
  refine EC.seq ?_
  -- region 2  locate.go:14
  refine EC.region (fun i => [1, 1].getD i 0) [0, 1] rfl ?_
  refine ER.sil rfl rfl rfl rfl (Sil.move rfl) ?_  -- 2.0: t12 := move
  refine ER.sil rfl rfl rfl rfl (Sil.lss rfl rfl) ?_  -- 2.1: t13 := binOp
  refine ER.nil (fun w9 h9 => ?_)
  refine AQ.then ?_
  refine EC.cond rfl (fun hb0 => ?_) (fun hb0 => ?_)  -- cond 0: t13
  ·
    have hno : nodeO inf p = none := idxI_neg (of_decide_eq_true hb0)
    refine EC.seq ?_
    -- region 3  locate.go:15
    refine EC.region (fun i => [1, 3, 1].getD i 0) [0, 1, 2] rfl ?_
    refine ER.sil rfl rfl rfl rfl (Sil.build rfl rfl) ?_  -- 3.0: t14 := build
    refine ER.bar rfl rfl rfl rfl (fun w10 h10 => Stp.store (by kernel_rfl) rfl rfl (r6.ext (((h7.trans h8).trans h9).trans h10)) rfl rfl (fun w11 u11 r11 => ?_))  -- 3.1: tNone := store
    have e11 := (((((h5.trans h6).trans h7).trans h8).trans h9).trans h10).upd u11 h5.size
    refine ER.sil rfl rfl rfl rfl (Sil.assign rfl) ?_  -- 3.2: t5 := assign
    refine ER.nil (fun w12 h12 => ?_)
    refine AQ.then ?_
    refine EC.ret ?_
    refine AQ.thenRet ?_
    refine AQ.retCT Try.results19 rfl rfl (LV.agg (r11.ext h12) agg61) ?_
    exact ⟨by rw [hno]; rfl, (((((h1.trans h2).trans h3).trans h4).trans e11).trans h12)⟩
  ·
    obtain ⟨i, hil, hix, hfi⟩ := idxI_ge (of_decide_eq_false hb0)
    have hfi : nodeO inf p = some inf.ends[i] := hfi
    rw [hix]
    refine EC.skip ?_
    refine AQ.then ?_
    refine EC.seq ?_
    -- region 4  locate.go:17
    refine EC.region (fun i => [1, 1, 0, 1, 1, 0, 3, 1].getD i 0) [0, 1, 2, 3, 4, 5, 6, 7] rfl ?_
    refine ER.sil rfl rfl rfl rfl (Sil.fieldAddr Try.underlying39 rfl inf36 rfl) ?_  -- 4.0: t15 := fieldAddr
    refine ER.sil rfl rfl rfl rfl (Sil.fieldAddr Try.underlying36 rfl inf31 rfl) ?_  -- 4.1: t16 := fieldAddr
    refine ER.ex rfl rfl rfl rfl (Exa.load flat31 rfl (((r2.ext ((((((h3.trans h4).trans h5).trans h6).trans h7).trans h8).trans h9))).cell hev)) ?_  -- 4.2: t17 := load
    refine ER.sil rfl rfl rfl rfl (Sil.move rfl) ?_  -- 4.3: t18 := move
    refine ER.sil rfl rfl rfl rfl (Sil.indexR Try.underlying31 inf61 rfl rfl (hel.isE (by omega)) (by omega) (by omega)) ?_  -- 4.4: t19 := indexAddr
    refine ER.ex rfl rfl rfl rfl (Exa.loadAgg (vs := (spC (inf.ends[i]))) agg61 rfl ((hel.at hil).ext ((((((((h1.trans h2).trans h3).trans h4).trans h5).trans h6).trans h7).trans h8).trans h9))) ?_  -- 4.5: t20 := load
    refine ER.bar rfl rfl rfl rfl (fun w13 h13 => Stp.store (by kernel_rfl) rfl rfl (r6.ext (((h7.trans h8).trans h9).trans h13)) rfl rfl (fun w14 u14 r14 => ?_))  -- 4.6: tNone := store
    have e14 := (((((h5.trans h6).trans h7).trans h8).trans h9).trans h13).upd u14 h5.size
    refine ER.sil rfl rfl rfl rfl (Sil.assign rfl) ?_  -- 4.7: t5 := assign
    refine ER.nil (fun w15 h15 => ?_)
    refine AQ.then ?_
    refine EC.ret ?_
    refine AQ.retCT Try.results19 rfl rfl (LV.agg (r14.ext h15) agg61) ?_
    exact ⟨by rw [hfi]; rfl, (((((h1.trans h2).trans h3).trans h4).trans e14).trans h15)⟩

-- linchpin/linchpinref42.Node: parameters ['api.Image', 'int'] (free 0), results [('ResultVar.cell', 4, 61), ('ResultVar.tmp', 5)], 37 slots
set_option maxRecDepth 100000 in
theorem noder_any (cs : List Value) (inf : Inf) (p : Int) (w : World) (hi : InfC w cs inf) :
    Calls Try.prog 31 [.agg cs.toArray, .int .i64 p].toArray w fun e w' => e = .returned (.tuple #[.agg (spC (spZ (nodeO inf p))).toArray, .bool (nodeO inf p).isSome]) ∧ Ext w w' := by
  obtain ⟨ev, hev, hel⟩ := hi.2.2.2.1
  have hm := hel.max
  have hcl := hi.len
  refine calls_of Try.func31 rfl Try.ntmps31 rfl ?_
  refine EC.seq ?_
  -- region 0  ref.go:7
  refine EC.region (fun i => [2, 2, 1].getD i 0) [0, 1, 2] rfl ?_
  refine ER.st rfl rfl rfl rfl (fun w1 h1 => Stp.box rfl (fun w2 h2 s2 r2 => ⟨h2, ?_⟩))  -- 0.0: t2 := box
  refine ER.st rfl rfl rfl rfl (fun w3 h3 => Stp.alloc inf61 (fun w4 h4 s4 r4 => ⟨h4, ?_⟩))  -- 0.1: t4 := alloc
  have n4 := Nat.le_trans (h1.trans h2).size h3.size
  refine ER.sil rfl rfl rfl rfl (Sil.assign rfl) ?_  -- 0.2: t5 := assign
  refine ER.nil (fun w5 h5 => ?_)
  refine AQ.then ?_
  refine EC.seq ?_
  refine EC.seq ?_
  -- region 1  ref.go:8
  refine EC.region (fun i => [1].getD i 0) [0] rfl ?_
  refine ER.sil rfl rfl rfl rfl (Sil.assign rfl) ?_  -- 1.0: t6 := assign
  refine ER.nil (fun w6 h6 => ?_)
  refine AQ.then ?_
  refine EC.block ?_
  refine EC.loop (σ := Nat) (fun k => [(1, .int .i64 p), (2, ptr w1.heap.size), (4, ptr w3.heap.size), (6, .int .i64 (k : Int))]) (fun k wr => Ext w wr ∧ Row wr w1.heap.size 39 cs ∧ Row wr w3.heap.size 61 (spC ⟨0, 0⟩) ∧ k ≤ inf.ends.length ∧ ∀ j (h : j < inf.ends.length), j < k → inSp p inf.ends[j] = false) (fun k => inf.ends.length - k) 0 [1, 2, 4, 6] rfl ?_ (fun k wr hF => ?_)
  · exact ⟨(((((h1.trans h2).trans h3).trans h4).trans h5).trans h6), (r2.ext (((h3.trans h4).trans h5).trans h6)), (r4.ext (h5.trans h6)), Nat.zero_le _, fun j _ h => absurd h (Nat.not_lt_zero j)⟩
  obtain ⟨hE, q2, q4, hk, hok⟩ := hF
  refine EC.seq ?_
  refine EC.seq ?_
  -- region 2  ref.go:8
  refine EC.region (fun i => [1, 1, 1, 0, 1, 1].getD i 0) [0, 1, 2, 3, 4, 5] rfl ?_
  refine ER.sil rfl rfl rfl rfl (Sil.move rfl) ?_  -- 2.0: t8 := move
  refine ER.sil rfl rfl rfl rfl (Sil.fieldAddr Try.underlying39 rfl inf36 rfl) ?_  -- 2.1: t9 := fieldAddr
  refine ER.sil rfl rfl rfl rfl (Sil.fieldAddr Try.underlying36 rfl inf31 rfl) ?_  -- 2.2: t10 := fieldAddr
  refine ER.ex rfl rfl rfl rfl (Exa.load flat31 rfl (q2.cell hev)) ?_  -- 2.3: t11 := load
  refine ER.sil rfl rfl rfl rfl (Sil.lenR Try.underlying31 rfl (hel.isS)) ?_  -- 2.4: t12 := call
  refine ER.sil rfl rfl rfl rfl (Sil.lss rfl rfl) ?_  -- 2.5: t13 := binOp
  refine ER.nil (fun w7 h7 => ?_)
  refine AQ.then ?_
  refine EC.cond rfl (fun hb0 => ?_) (fun hb0 => ?_)  -- cond 0: t13
  ·
    have hlt : k < inf.ends.length := by have := of_decide_eq_true hb0; omega
    refine EC.skip ?_
    refine AQ.then ?_
    refine EC.seq ?_
    refine EC.block ?_
    refine EC.seq ?_
    -- region 4  ref.go:9
    refine EC.region (fun i => [1, 1, 0, 1, 1, 0, 2, 3].getD i 0) [0, 1, 2, 3, 4, 5, 6, 7] rfl ?_
    refine ER.sil rfl rfl rfl rfl (Sil.fieldAddr Try.underlying39 rfl inf36 rfl) ?_  -- 4.0: t16 := fieldAddr
    refine ER.sil rfl rfl rfl rfl (Sil.fieldAddr Try.underlying36 rfl inf31 rfl) ?_  -- 4.1: t17 := fieldAddr
    refine ER.ex rfl rfl rfl rfl (Exa.load flat31 rfl (((q2.ext h7)).cell hev)) ?_  -- 4.2: t18 := load
    refine ER.sil rfl rfl rfl rfl (Sil.move rfl) ?_  -- 4.3: t19 := move
    refine ER.sil rfl rfl rfl rfl (Sil.indexR Try.underlying31 inf61 rfl rfl (hel.isE (by omega)) (by omega) (by omega)) ?_  -- 4.4: t20 := indexAddr
    refine ER.ex rfl rfl rfl rfl (Exa.loadAgg (vs := (spC (inf.ends[k]))) agg61 rfl ((hel.at hlt).ext (hE.trans h7))) ?_  -- 4.5: t21 := load
    refine ER.st rfl rfl rfl rfl (fun w8 h8 => Stp.alloc inf61 (fun w9 h9 s9 r9 => ⟨h9, ?_⟩))  -- 4.6: t7 := alloc
    refine ER.bar rfl rfl rfl rfl (fun w10 h10 => Stp.store (by kernel_rfl) rfl rfl (r9.ext h10) rfl rfl (fun w11 u11 r11 => ?_))  -- 4.7: tNone := store
    have e11 := ((h8.trans h9).trans h10).upd u11 h8.size
    refine ER.nil (fun w12 h12 => ?_)
    refine AQ.then ?_
    refine EC.seq ?_
    -- region 5  ref.go:10
    refine EC.region (fun i => [1, 0, 1, 1, 1, 1, 1, 0, 1, 0, 1, 1, 1].getD i 0) [0, 1, 2, 3, 4, 5, 6, 7, 8, 9, 10, 11, 12] rfl ?_
    refine ER.sil rfl rfl rfl rfl (Sil.fieldAddr Try.underlying61 rfl inf3 rfl) ?_  -- 5.0: t22 := fieldAddr
    refine ER.ex rfl rfl rfl rfl (Exa.load flat3 rfl ((r11.ext h12).cell rfl)) ?_  -- 5.1: t23 := load
    refine ER.sil rfl rfl rfl rfl (Sil.move rfl) ?_  -- 5.2: t24 := move
    refine ER.sil rfl rfl rfl rfl (Sil.leq rfl rfl) ?_  -- 5.3: t25 := binOp
    refine ER.sil rfl rfl rfl rfl (Sil.move rfl) ?_  -- 5.4: t26 := move
    refine ER.silG rfl rfl rfl rfl rfl rfl (fun hc => Sil.move rfl) ?_  -- 5.5: t27 := move
    refine ER.silG rfl rfl rfl rfl rfl rfl (fun hc => Sil.fieldAddr Try.underlying61 rfl inf3 rfl) ?_  -- 5.6: t28 := fieldAddr
    refine ER.exG rfl rfl rfl rfl rfl rfl (fun hc => Exa.load flat3 (congrArg some (sel_eq hc _)) ((r11.ext h12).cell rfl)) ?_  -- 5.7: t29 := load
    refine ER.silG rfl rfl rfl rfl rfl rfl (fun hc => Sil.fieldAddr Try.underlying61 rfl inf3 rfl) ?_  -- 5.8: t30 := fieldAddr
    refine ER.exG rfl rfl rfl rfl rfl rfl (fun hc => Exa.load flat3 (congrArg some (sel_eq hc _)) ((r11.ext h12).cell rfl)) ?_  -- 5.9: t31 := load
    refine ER.silG rfl rfl rfl rfl rfl rfl (fun hc => Sil.add (congrArg some (sel_eq hc _)) (congrArg some (sel_eq hc _))) ?_  -- 5.10: t32 := binOp
    refine ER.silG rfl rfl rfl rfl rfl rfl (fun hc => Sil.lss (congrArg some (sel_eq hc _)) (congrArg some (sel_eq hc _))) ?_  -- 5.11: t33 := binOp
    refine ER.sil rfl rfl rfl rfl (Sil.pickAnd rfl rfl rfl) ?_  -- 5.12: t34 := pick
    refine ER.nil (fun w13 h13 => ?_)
    refine AQ.then ?_
    refine EC.cond rfl (fun hb1 => ?_) (fun hb1 => ?_)  -- cond 1: t34
    ·
      refine EC.seq ?_
      -- region 6  ref.go:11
      refine EC.region (fun i => [0, 3, 1].getD i 0) [0, 1, 2] rfl ?_
      refine ER.ex rfl rfl rfl rfl (Exa.loadAgg (vs := (spC (inf.ends[k]))) agg61 rfl ((r11.ext (h12.trans h13)).at)) ?_  -- 6.0: t35 := load
      refine ER.bar rfl rfl rfl rfl (fun w14 h14 => Stp.store (by kernel_rfl) rfl rfl (q4.ext ((((h7.trans e11).trans h12).trans h13).trans h14)) rfl rfl (fun w15 u15 r15 => ?_))  -- 6.1: tNone := store
      have b15 := (((((hE.trans h7).trans e11).trans h12).trans h13).trans h14).upd u15 n4
      refine ER.sil rfl rfl rfl rfl (Sil.assign rfl) ?_  -- 6.2: t5 := assign
      refine ER.nil (fun w16 h16 => ?_)
      refine AQ.then ?_
      refine EC.ret ?_
      refine AQ.blockRet ?_
      refine AQ.thenRet ?_
      refine AQ.thenRet ?_
      refine AQ.blockRet ?_
      refine AQ.thenRet ?_
      refine AQ.retCT Try.results31 rfl rfl (LV.agg (r15.ext h16) agg61) ?_
      have hfi : nodeO inf p = some inf.ends[k] := find_at hlt hb1 hok
      exact ⟨by rw [hfi]; rfl, (b15.trans h16)⟩
    ·
      refine EC.skip ?_
      refine AQ.blockNormal ?_
      refine AQ.then ?_
      -- region 3  ref.go:8
      refine EC.region (fun i => [1, 1, 1].getD i 0) [0, 1, 2] rfl ?_
      refine ER.sil rfl rfl rfl rfl (Sil.move rfl) ?_  -- 3.0: t14 := move
      refine ER.sil rfl rfl rfl rfl (Sil.add rfl rfl) ?_  -- 3.1: t15 := binOp
      refine ER.sil rfl rfl rfl rfl (Sil.assign rfl) ?_  -- 3.2: t6 := assign
      refine ER.nil (fun w17 h17 => ?_)
      refine AQ.round (k + 1) [1, 2, 4, 6] (by rw [← wrap_succ hlt hm]; rfl) ⟨(((((hE.trans h7).trans e11).trans h12).trans h13).trans h17), (q2.ext ((((h7.trans e11).trans h12).trans h13).trans h17)), (q4.ext ((((h7.trans e11).trans h12).trans h13).trans h17)), hlt, fun j h hj => ?_⟩ (by omega)
      rcases Nat.lt_or_eq_of_le (Nat.le_of_lt_succ hj) with hj | rfl
      · exact hok j h hj
      · exact hb1
  ·
    refine EC.exit ?_
    refine AQ.thenExit ?_
    refine AQ.thenExit ?_
    refine AQ.blockHit ?_
    refine AQ.then ?_
    refine EC.seq ?_
    -- region 7  ref.go:14
    refine EC.region (fun i => [1, 3, 1].getD i 0) [0, 1, 2] rfl ?_
    refine ER.sil rfl rfl rfl rfl (Sil.build rfl rfl) ?_  -- 7.0: t36 := build
    refine ER.bar rfl rfl rfl rfl (fun w18 h18 => Stp.store (by kernel_rfl) rfl rfl (q4.ext (h7.trans h18)) rfl rfl (fun w19 u19 r19 => ?_))  -- 7.1: tNone := store
    have b19 := ((hE.trans h7).trans h18).upd u19 n4
    refine ER.sil rfl rfl rfl rfl (Sil.assign rfl) ?_  -- 7.2: t5 := assign
    refine ER.nil (fun w20 h20 => ?_)
    refine AQ.then ?_
    refine EC.ret ?_
    refine AQ.retCT Try.results31 rfl rfl (LV.agg (r19.ext h20) agg61) ?_
    have hge : k = inf.ends.length := by have := of_decide_eq_false hb0; omega
    subst hge
    have hno : nodeO inf p = none := find_no fun j h => hok j h h
    exact ⟨by rw [hno]; rfl, (b19.trans h20)⟩

end Go.Proofs.Ytcgapppamhffjaa
