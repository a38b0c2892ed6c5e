/- Locate: those that a test lets through, visited. -/
import Derived.Test.YtcgapppamhffjaaW2
namespace Go.Proofs.Ytcgapppamhffjaa
open Go.RowKit Go.XK Go.LocateLaw

structure SomS where
  k : Nat
  S : Nat → Prop

-- linchpin/locate.some[linchpin/api.Mark]$1: parameters ['func(api.Mark) bool'] (free 2), results [], 22 slots
set_option maxRecDepth 100000 in
theorem some_mkC_walk (ys : List Mk) (v : Value) (g : Nat) (caps : List Value) (p : Mk → Bool) (w00 : World) (b1 b2 : Nat) (w : World) (hx : Ext w00 w) (hl : LR 4 mkC w00 v ys) (hg : FnOK Try.prog g) (hp : PredC g caps mkC p w00) (ra : Row w b1 29 [v]) (rb : Row w b2 72 [.func (.func g) #[] caps.toArray])
    (l : Nat) (J : Nat → (Nat → Prop) → World → Prop) (X : (Nat → Prop) → World → Prop) (stJ : ∀ k, Stays w.heap.size (J k)) (stX : Stays w.heap.size X) (bJ : ∀ k S W, J k S W → ∀ b, S b → b < W.heap.size) (hy : HY Try.prog l J X ((ys.filter p).map fun x => [Value.agg (mkC x).toArray]))
    (S : Nat → Prop) (hS : ∀ b, (b < w00.heap.size ∨ b = b1 ∨ b = b2) → ¬ S b) (hSw : ∀ b, S b → b < w.heap.size) (h0 : It S w (J 0) S w) :
    Calls Try.prog 43 [.func (.yield l) #[] #[], ptr b1, ptr b2].toArray w fun e w' => ∃ v S', e = .returned v ∧ Mod S w w' ∧ (∀ b, b < w.heap.size → S' b → S b) ∧ (J ((ys.filter p).map fun x => [Value.agg (mkC x).toArray]).length S' w' ∨ X S' w') := by
  have hm := hl.max
  refine calls_of Try.func43 rfl Try.ntmps43 rfl ?_
  refine EC.seq ?_
  -- region 0  locate.go:23
  refine EC.region (fun i => [0, 1, 1].getD i 0) [0, 1, 2] rfl ?_
  refine ER.ex rfl rfl rfl rfl (Exa.load flat29 rfl (ra.cell rfl)) ?_  -- 0.0: t6 := load
  refine ER.sil rfl rfl rfl rfl (Sil.lenR Try.underlying29 rfl (hl.isS)) ?_  -- 0.1: t7 := call
  refine ER.sil rfl rfl rfl rfl (Sil.move rfl) ?_  -- 0.2: t8 := move
  refine ER.nil (fun w1 h1 => ?_)
  refine AQ.then ?_
  refine EC.block ?_
  refine EC.loop (σ := SomS) (fun q => [(0, .func (.yield l) #[] #[]), (1, ptr b1), (2, ptr b2), (6, v), (7, .int .i64 (ys.length : Int)), (8, .int .i64 (q.k : Int))]) (fun q wr => It S w (J ((ys.take q.k).filter p).length) q.S wr ∧ q.k ≤ ys.length) (fun q => ys.length - q.k) ⟨0, S⟩ [0, 1, 2, 6, 7, 8] rfl ?_ (fun q wr hF => ?_)
  · exact ⟨h0.ext (stJ 0) h1, Nat.zero_le _⟩
  obtain ⟨hI, hk⟩ := hF
  have hE := Ext.refl wr
  have hw0 := hI.base hx (fun b hb => hS b (.inl hb))
  have q2 := hI.md.row rb (hS _ (.inr (.inr rfl)))
  refine EC.seq ?_
  -- region 1  locate.go:23
  refine EC.region (fun i => [1].getD i 0) [0] rfl ?_
  refine ER.sil rfl rfl rfl rfl (Sil.lss rfl rfl) ?_  -- 1.0: t9 := binOp
  refine ER.nil (fun w2 h2 => ?_)
  refine AQ.then ?_
  refine EC.seq ?_
  refine EC.cond rfl (fun hb0 => ?_) (fun hb0 => ?_)  -- cond 0: t9
  ·
    have hlt : q.k < ys.length := by have := of_decide_eq_true hb0; omega
    refine EC.skip ?_
    refine AQ.then ?_
    refine EC.seq ?_
    refine EC.block ?_
    refine EC.seq ?_
    -- region 2  locate.go:23
    refine EC.region (fun i => [1, 0, 2, 3].getD i 0) [0, 1, 2, 3] rfl ?_
    refine ER.sil rfl rfl rfl rfl (Sil.indexR Try.underlying29 inf66 rfl rfl (hl.isE (by omega)) (by omega) (by omega)) ?_  -- 2.0: t10 := indexAddr
    refine ER.ex rfl rfl rfl rfl (Exa.loadAgg (vs := (mkC (ys[q.k]))) agg66 rfl ((hl.at hlt).ext (hw0.trans (hE.trans h2)))) ?_  -- 2.1: t11 := load
    refine ER.st rfl rfl rfl rfl (fun w3 h3 => Stp.alloc inf66 (fun w4 h4 s4 r4 => ⟨h4, ?_⟩))  -- 2.2: t5 := alloc
    refine ER.bar rfl rfl rfl rfl (fun w5 h5 => Stp.store (by kernel_rfl) rfl rfl (r4.ext h5) rfl rfl (fun w6 u6 r6 => ?_))  -- 2.3: tNone := store
    have e6 := ((h3.trans h4).trans h5).upd u6 h3.size
    refine ER.nil (fun w7 h7 => ?_)
    refine AQ.then ?_
    refine EC.seq ?_
    cases hsp3 : p ys[q.k]
    ·
      -- region 3  locate.go:24
      refine EC.region (fun i => [0, 0, 0, 1, 1, 0, 3, 1, 1].getD i 0) [0, 1, 2, 3, 4, 5, 6, 7, 8] rfl ?_
      refine ER.ex rfl rfl rfl rfl (Exa.load flat72 rfl ((q2.ext (((hE.trans h2).trans e6).trans h7)).cell rfl)) ?_  -- 3.0: t12 := load
      refine ER.ex rfl rfl rfl rfl (Exa.loadAgg (vs := (mkC (ys[q.k]))) agg66 rfl ((r6.ext h7).at)) ?_  -- 3.1: t13 := load
      refine ER.ex rfl rfl rfl rfl (Exa.callC hg rfl rfl (fun wx hx => (hp ys[q.k] wx (hw0.trans ((((hE.trans h2).trans e6).trans h7).trans hx))))) ?_  -- 3.2: t14 := call
      refine ER.sil rfl rfl rfl rfl (Sil.move rfl) ?_  -- 3.3: t15 := move
      refine ER.skipG rfl rfl rfl rfl (by rw [hsp3]; rfl) rfl ?_  -- 3.4
      refine ER.skipG rfl rfl rfl rfl (by rw [hsp3]; rfl) rfl ?_  -- 3.5
      refine ER.skipG rfl rfl rfl rfl (by rw [hsp3]; rfl) rfl ?_  -- 3.6
      refine ER.skipG rfl rfl rfl rfl (by rw [hsp3]; rfl) rfl ?_  -- 3.7
      refine ER.sil rfl rfl rfl rfl (Sil.pick rfl rfl rfl) ?_  -- 3.8: t20 := pick
      rw [hsp3]
      refine ER.nil (fun w8 h8 => ?_)
      refine AQ.then ?_
      refine EC.cond rfl (fun hb1 => ?_) (fun hb1 => ?_)  -- cond 1: t20
      ·
        cases hb1
      ·
        refine EC.skip ?_
        refine AQ.blockNormal ?_
        refine AQ.then ?_
        -- region 4  locate.go:23
        refine EC.region (fun i => [1, 1].getD i 0) [0, 1] rfl ?_
        refine ER.sil rfl rfl rfl rfl (Sil.add rfl rfl) ?_  -- 4.0: t21 := binOp
        refine ER.sil rfl rfl rfl rfl (Sil.move rfl) ?_  -- 4.1: t8 := move
        refine ER.nil (fun w9 h9 => ?_)
        exact AQ.round ⟨q.k + 1, q.S⟩ [0, 1, 2, 6, 7, 8] (by rw [← wrap_succ hlt hm]; rfl) ⟨by simp only [filt_no hlt hsp3]; exact hI.ext (stJ _) (((((hE.trans h2).trans e6).trans h7).trans h8).trans h9), hlt⟩ (by simp only; omega)
    ·
      -- region 3  locate.go:24
      refine EC.region (fun i => [0, 0, 0, 1, 1, 0, 3, 1, 1].getD i 0) [0, 1, 2, 3, 4, 5, 6, 7, 8] rfl ?_
      refine ER.ex rfl rfl rfl rfl (Exa.load flat72 rfl ((q2.ext (((hE.trans h2).trans e6).trans h7)).cell rfl)) ?_  -- 3.0: t12 := load
      refine ER.ex rfl rfl rfl rfl (Exa.loadAgg (vs := (mkC (ys[q.k]))) agg66 rfl ((r6.ext h7).at)) ?_  -- 3.1: t13 := load
      refine ER.ex rfl rfl rfl rfl (Exa.callC hg rfl rfl (fun wx hx => (hp ys[q.k] wx (hw0.trans ((((hE.trans h2).trans e6).trans h7).trans hx))))) ?_  -- 3.2: t14 := call
      refine ER.sil rfl rfl rfl rfl (Sil.move rfl) ?_  -- 3.3: t15 := move
      refine ER.silD rfl rfl rfl rfl (by rw [hsp3]; rfl) rfl rfl (Sil.move rfl) ?_  -- 3.4: t16 := move
      refine ER.exD rfl rfl rfl rfl (by rw [hsp3]; rfl) rfl rfl (Exa.loadAgg (vs := (mkC (ys[q.k]))) agg66 rfl ((r6.ext h7).at)) ?_  -- 3.5: t17 := load
      --  -- 3.6: t18 := call
      have hci := filt_lt hlt hsp3
      refine ER.barG rfl rfl rfl rfl (by rw [hsp3]; rfl) rfl rfl (fun w10 h10 => Stp.yield rfl rfl (Yields.mono ((hI.ext (stJ _) ((((hE.trans h2).trans e6).trans h7).trans h10)).yields hy (i := ((ys.take q.k).filter p).length) (by rw [List.length_map]; exact hci) (by rw [List.getElem_map, filt_get hlt hsp3 hci])) ?_))
      rintro _ w11 ⟨S2, k11, n11, c, rfl, hct, hcf⟩
      refine ER.silD rfl rfl rfl rfl (by rw [hsp3]; rfl) rfl rfl (Sil.not rfl) ?_  -- 3.7: t19 := unOp
      refine ER.sil rfl rfl rfl rfl (Sil.pick rfl rfl rfl) ?_  -- 3.8: t20 := pick
      rw [hsp3]
      refine ER.nil (fun w12 h12 => ?_)
      refine AQ.then ?_
      refine EC.cond rfl (fun hb2 => ?_) (fun hb2 => ?_)  -- cond 2: t20
      ·
        refine EC.ret ?_
        refine AQ.blockRet ?_
        refine AQ.thenRet ?_
        refine AQ.thenRet ?_
        refine AQ.blockRet ?_
        refine AQ.ret0' Try.results43 ?_
        exact It.stop rfl ((hcf (by simpa using hb2)).ext stX h12)
      ·
        have hI2 := hct (by simpa using hb2)
        refine EC.skip ?_
        refine AQ.blockNormal ?_
        refine AQ.then ?_
        -- region 4  locate.go:23
        refine EC.region (fun i => [1, 1].getD i 0) [0, 1] rfl ?_
        refine ER.sil rfl rfl rfl rfl (Sil.add rfl rfl) ?_  -- 4.0: t21 := binOp
        refine ER.sil rfl rfl rfl rfl (Sil.move rfl) ?_  -- 4.1: t8 := move
        refine ER.nil (fun w13 h13 => ?_)
        exact AQ.round ⟨q.k + 1, S2⟩ [0, 1, 2, 6, 7, 8] (by rw [← wrap_succ hlt hm]; rfl) ⟨by simp only [filt_yes hlt hsp3, List.length_append, List.length_singleton]; exact hI2.ext (stJ _) (h12.trans h13), hlt⟩ (by simp only; omega)
  ·
    refine EC.exit ?_
    refine AQ.thenExit ?_
    refine AQ.thenExit ?_
    refine AQ.blockHit ?_
    refine AQ.ret0 Try.results43 ?_
    have hge : q.k = ys.length := by have := of_decide_eq_false hb0; omega
    exact It.done rfl (hI.ext (stJ _) (hE.trans h2)) (by rw [List.length_map, hge, List.take_length])

theorem some_mkC_seq (ys : List Mk) (v : Value) (g : Nat) (caps : List Value) (p : Mk → Bool) (w00 : World) (b1 b2 : Nat) (w : World) (hx : Ext w00 w) (hl : LR 4 mkC w00 v ys) (hg : FnOK Try.prog g) (hp : PredC g caps mkC p w00) (ra : Row w b1 29 [v]) (rb : Row w b2 72 [.func (.func g) #[] caps.toArray]) : SeqC Try.prog 43 [ptr b1, ptr b2] (fun b => (b < w00.heap.size ∨ b = b1 ∨ b = b2)) ((ys.filter p).map fun x => [Value.agg (mkC x).toArray]) w :=
  SeqC.of fun l J X stJ stX bJ hy S hS hSw h0 => some_mkC_walk ys v g caps p w00 b1 b2 w hx hl hg hp ra rb l J X stJ stX bJ hy S hS hSw h0

-- linchpin/locate.some[linchpin/api.Mark]: parameters ['[]api.Mark', 'func(api.Mark) bool'] (free 0), results [('ResultVar.tmp', 4)], 6 slots
set_option maxRecDepth 100000 in
theorem some_mkC_any (v fv : Value) (w : World) (hs : ∃ a n c, v = .slice a n c) (hf : ∃ g a b, fv = .func g a b) :
    Calls Try.prog 22 [v, fv].toArray w fun e w' => ∃ v', e = .returned v' ∧ Ext w w' ∧ ∃ b1 b2, v' = .func (.func 43) #[] #[ptr b1, ptr b2] ∧ Row w' b1 29 [v] ∧ Row w' b2 72 [fv] ∧ w.heap.size ≤ b1 ∧ w.heap.size ≤ b2 := by
  obtain ⟨sa, sn, sc, rfl⟩ := hs
  obtain ⟨fg, fa, fb, rfl⟩ := hf
  refine calls_of Try.func22 rfl Try.ntmps22 rfl ?_
  refine EC.seq ?_
  -- region 0  locate.go:21
  refine EC.region (fun i => [2, 2, 1].getD i 0) [0, 1, 2] rfl ?_
  refine ER.st rfl rfl rfl rfl (fun w1 h1 => Stp.box rfl (fun w2 h2 s2 r2 => ⟨h2, ?_⟩))  -- 0.0: t2 := box
  have n0 := h1.size
  have n1 := (h1.trans h2).size
  refine ER.st rfl rfl rfl rfl (fun w3 h3 => Stp.box rfl (fun w4 h4 s4 r4 => ⟨h4, ?_⟩))  -- 0.1: t3 := box
  have n2 := h3.size
  refine ER.sil rfl rfl rfl rfl (Sil.assign rfl) ?_  -- 0.2: t4 := assign
  refine ER.nil (fun w5 h5 => ?_)
  refine AQ.then ?_
  refine EC.seq ?_
  -- region 1  locate.go:22
  refine EC.region (fun i => [1, 1].getD i 0) [0, 1] rfl ?_
  refine ER.sil rfl rfl rfl rfl (Sil.makeFunc rfl rfl) ?_  -- 1.0: t5 := makeFunc
  refine ER.sil rfl rfl rfl rfl (Sil.assign rfl) ?_  -- 1.1: t4 := assign
  refine ER.nil (fun w6 h6 => ?_)
  refine AQ.then ?_
  refine EC.ret ?_
  refine AQ.ret1 Try.results22 rfl ?_
  exact ⟨_, rfl, (((((h1.trans h2).trans h3).trans h4).trans h5).trans h6), w1.heap.size, w3.heap.size, rfl, (r2.ext (((h3.trans h4).trans h5).trans h6)), (r4.ext (h5.trans h6)), by omega, by omega⟩

-- linchpin/locate.some[linchpin/api.Line]$1: parameters ['func(api.Line) bool'] (free 2), results [], 22 slots
set_option maxRecDepth 100000 in
theorem some_lnC_walk (ys : List Ln) (v : Value) (g : Nat) (caps : List Value) (p : Ln → Bool) (w00 : World) (b1 b2 : Nat) (w : World) (hx : Ext w00 w) (hl : LR 4 lnC w00 v ys) (hg : FnOK Try.prog g) (hp : PredC g caps lnC p w00) (ra : Row w b1 30 [v]) (rb : Row w b2 80 [.func (.func g) #[] caps.toArray])
    (l : Nat) (J : Nat → (Nat → Prop) → World → Prop) (X : (Nat → Prop) → World → Prop) (stJ : ∀ k, Stays w.heap.size (J k)) (stX : Stays w.heap.size X) (bJ : ∀ k S W, J k S W → ∀ b, S b → b < W.heap.size) (hy : HY Try.prog l J X ((ys.filter p).map fun x => [Value.agg (lnC x).toArray]))
    (S : Nat → Prop) (hS : ∀ b, (b < w00.heap.size ∨ b = b1 ∨ b = b2) → ¬ S b) (hSw : ∀ b, S b → b < w.heap.size) (h0 : It S w (J 0) S w) :
    Calls Try.prog 44 [.func (.yield l) #[] #[], ptr b1, ptr b2].toArray w fun e w' => ∃ v S', e = .returned v ∧ Mod S w w' ∧ (∀ b, b < w.heap.size → S' b → S b) ∧ (J ((ys.filter p).map fun x => [Value.agg (lnC x).toArray]).length S' w' ∨ X S' w') := by
  have hm := hl.max
  refine calls_of Try.func44 rfl Try.ntmps44 rfl ?_
  refine EC.seq ?_
  -- region 0  locate.go:23
  refine EC.region (fun i => [0, 1, 1].getD i 0) [0, 1, 2] rfl ?_
  refine ER.ex rfl rfl rfl rfl (Exa.load flat30 rfl (ra.cell rfl)) ?_  -- 0.0: t6 := load
  refine ER.sil rfl rfl rfl rfl (Sil.lenR Try.underlying30 rfl (hl.isS)) ?_  -- 0.1: t7 := call
  refine ER.sil rfl rfl rfl rfl (Sil.move rfl) ?_  -- 0.2: t8 := move
  refine ER.nil (fun w1 h1 => ?_)
  refine AQ.then ?_
  refine EC.block ?_
  refine EC.loop (σ := SomS) (fun q => [(0, .func (.yield l) #[] #[]), (1, ptr b1), (2, ptr b2), (6, v), (7, .int .i64 (ys.length : Int)), (8, .int .i64 (q.k : Int))]) (fun q wr => It S w (J ((ys.take q.k).filter p).length) q.S wr ∧ q.k ≤ ys.length) (fun q => ys.length - q.k) ⟨0, S⟩ [0, 1, 2, 6, 7, 8] rfl ?_ (fun q wr hF => ?_)
  · exact ⟨h0.ext (stJ 0) h1, Nat.zero_le _⟩
  obtain ⟨hI, hk⟩ := hF
  have hE := Ext.refl wr
  have hw0 := hI.base hx (fun b hb => hS b (.inl hb))
  have q2 := hI.md.row rb (hS _ (.inr (.inr rfl)))
  refine EC.seq ?_
  -- region 1  locate.go:23
  refine EC.region (fun i => [1].getD i 0) [0] rfl ?_
  refine ER.sil rfl rfl rfl rfl (Sil.lss rfl rfl) ?_  -- 1.0: t9 := binOp
  refine ER.nil (fun w2 h2 => ?_)
  refine AQ.then ?_
  refine EC.seq ?_
  refine EC.cond rfl (fun hb0 => ?_) (fun hb0 => ?_)  -- cond 0: t9
  ·
    have hlt : q.k < ys.length := by have := of_decide_eq_true hb0; omega
    refine EC.skip ?_
    refine AQ.then ?_
    refine EC.seq ?_
    refine EC.block ?_
    refine EC.seq ?_
    -- region 2  locate.go:23
    refine EC.region (fun i => [1, 0, 2, 3].getD i 0) [0, 1, 2, 3] rfl ?_
    refine ER.sil rfl rfl rfl rfl (Sil.indexR Try.underlying30 inf74 rfl rfl (hl.isE (by omega)) (by omega) (by omega)) ?_  -- 2.0: t10 := indexAddr
    refine ER.ex rfl rfl rfl rfl (Exa.loadAgg (vs := (lnC (ys[q.k]))) agg74 rfl ((hl.at hlt).ext (hw0.trans (hE.trans h2)))) ?_  -- 2.1: t11 := load
    refine ER.st rfl rfl rfl rfl (fun w3 h3 => Stp.alloc inf74 (fun w4 h4 s4 r4 => ⟨h4, ?_⟩))  -- 2.2: t5 := alloc
    refine ER.bar rfl rfl rfl rfl (fun w5 h5 => Stp.store (by kernel_rfl) rfl rfl (r4.ext h5) rfl rfl (fun w6 u6 r6 => ?_))  -- 2.3: tNone := store
    have e6 := ((h3.trans h4).trans h5).upd u6 h3.size
    refine ER.nil (fun w7 h7 => ?_)
    refine AQ.then ?_
    refine EC.seq ?_
    cases hsp3 : p ys[q.k]
    ·
      -- region 3  locate.go:24
      refine EC.region (fun i => [0, 0, 0, 1, 1, 0, 3, 1, 1].getD i 0) [0, 1, 2, 3, 4, 5, 6, 7, 8] rfl ?_
      refine ER.ex rfl rfl rfl rfl (Exa.load flat80 rfl ((q2.ext (((hE.trans h2).trans e6).trans h7)).cell rfl)) ?_  -- 3.0: t12 := load
      refine ER.ex rfl rfl rfl rfl (Exa.loadAgg (vs := (lnC (ys[q.k]))) agg74 rfl ((r6.ext h7).at)) ?_  -- 3.1: t13 := load
      refine ER.ex rfl rfl rfl rfl (Exa.callC hg rfl rfl (fun wx hx => (hp ys[q.k] wx (hw0.trans ((((hE.trans h2).trans e6).trans h7).trans hx))))) ?_  -- 3.2: t14 := call
      refine ER.sil rfl rfl rfl rfl (Sil.move rfl) ?_  -- 3.3: t15 := move
      refine ER.skipG rfl rfl rfl rfl (by rw [hsp3]; rfl) rfl ?_  -- 3.4
      refine ER.skipG rfl rfl rfl rfl (by rw [hsp3]; rfl) rfl ?_  -- 3.5
      refine ER.skipG rfl rfl rfl rfl (by rw [hsp3]; rfl) rfl ?_  -- 3.6
      refine ER.skipG rfl rfl rfl rfl (by rw [hsp3]; rfl) rfl ?_  -- 3.7
      refine ER.sil rfl rfl rfl rfl (Sil.pick rfl rfl rfl) ?_  -- 3.8: t20 := pick
      rw [hsp3]
      refine ER.nil (fun w8 h8 => ?_)
      refine AQ.then ?_
      refine EC.cond rfl (fun hb1 => ?_) (fun hb1 => ?_)  -- cond 1: t20
      ·
        cases hb1
      ·
        refine EC.skip ?_
        refine AQ.blockNormal ?_
        refine AQ.then ?_
        -- region 4  locate.go:23
        refine EC.region (fun i => [1, 1].getD i 0) [0, 1] rfl ?_
        refine ER.sil rfl rfl rfl rfl (Sil.add rfl rfl) ?_  -- 4.0: t21 := binOp
        refine ER.sil rfl rfl rfl rfl (Sil.move rfl) ?_  -- 4.1: t8 := move
        refine ER.nil (fun w9 h9 => ?_)
        exact AQ.round ⟨q.k + 1, q.S⟩ [0, 1, 2, 6, 7, 8] (by rw [← wrap_succ hlt hm]; rfl) ⟨by simp only [filt_no hlt hsp3]; exact hI.ext (stJ _) (((((hE.trans h2).trans e6).trans h7).trans h8).trans h9), hlt⟩ (by simp only; omega)
    ·
      -- region 3  locate.go:24
      refine EC.region (fun i => [0, 0, 0, 1, 1, 0, 3, 1, 1].getD i 0) [0, 1, 2, 3, 4, 5, 6, 7, 8] rfl ?_
      refine ER.ex rfl rfl rfl rfl (Exa.load flat80 rfl ((q2.ext (((hE.trans h2).trans e6).trans h7)).cell rfl)) ?_  -- 3.0: t12 := load
      refine ER.ex rfl rfl rfl rfl (Exa.loadAgg (vs := (lnC (ys[q.k]))) agg74 rfl ((r6.ext h7).at)) ?_  -- 3.1: t13 := load
      refine ER.ex rfl rfl rfl rfl (Exa.callC hg rfl rfl (fun wx hx => (hp ys[q.k] wx (hw0.trans ((((hE.trans h2).trans e6).trans h7).trans hx))))) ?_  -- 3.2: t14 := call
      refine ER.sil rfl rfl rfl rfl (Sil.move rfl) ?_  -- 3.3: t15 := move
      refine ER.silD rfl rfl rfl rfl (by rw [hsp3]; rfl) rfl rfl (Sil.move rfl) ?_  -- 3.4: t16 := move
      refine ER.exD rfl rfl rfl rfl (by rw [hsp3]; rfl) rfl rfl (Exa.loadAgg (vs := (lnC (ys[q.k]))) agg74 rfl ((r6.ext h7).at)) ?_  -- 3.5: t17 := load
      --  -- 3.6: t18 := call
      have hci := filt_lt hlt hsp3
      refine ER.barG rfl rfl rfl rfl (by rw [hsp3]; rfl) rfl rfl (fun w10 h10 => Stp.yield rfl rfl (Yields.mono ((hI.ext (stJ _) ((((hE.trans h2).trans e6).trans h7).trans h10)).yields hy (i := ((ys.take q.k).filter p).length) (by rw [List.length_map]; exact hci) (by rw [List.getElem_map, filt_get hlt hsp3 hci])) ?_))
      rintro _ w11 ⟨S2, k11, n11, c, rfl, hct, hcf⟩
      refine ER.silD rfl rfl rfl rfl (by rw [hsp3]; rfl) rfl rfl (Sil.not rfl) ?_  -- 3.7: t19 := unOp
      refine ER.sil rfl rfl rfl rfl (Sil.pick rfl rfl rfl) ?_  -- 3.8: t20 := pick
      rw [hsp3]
      refine ER.nil (fun w12 h12 => ?_)
      refine AQ.then ?_
      refine EC.cond rfl (fun hb2 => ?_) (fun hb2 => ?_)  -- cond 2: t20
      ·
        refine EC.ret ?_
        refine AQ.blockRet ?_
        refine AQ.thenRet ?_
        refine AQ.thenRet ?_
        refine AQ.blockRet ?_
        refine AQ.ret0' Try.results44 ?_
        exact It.stop rfl ((hcf (by simpa using hb2)).ext stX h12)
      ·
        have hI2 := hct (by simpa using hb2)
        refine EC.skip ?_
        refine AQ.blockNormal ?_
        refine AQ.then ?_
        -- region 4  locate.go:23
        refine EC.region (fun i => [1, 1].getD i 0) [0, 1] rfl ?_
        refine ER.sil rfl rfl rfl rfl (Sil.add rfl rfl) ?_  -- 4.0: t21 := binOp
        refine ER.sil rfl rfl rfl rfl (Sil.move rfl) ?_  -- 4.1: t8 := move
        refine ER.nil (fun w13 h13 => ?_)
        exact AQ.round ⟨q.k + 1, S2⟩ [0, 1, 2, 6, 7, 8] (by rw [← wrap_succ hlt hm]; rfl) ⟨by simp only [filt_yes hlt hsp3, List.length_append, List.length_singleton]; exact hI2.ext (stJ _) (h12.trans h13), hlt⟩ (by simp only; omega)
  ·
    refine EC.exit ?_
    refine AQ.thenExit ?_
    refine AQ.thenExit ?_
    refine AQ.blockHit ?_
    refine AQ.ret0 Try.results44 ?_
    have hge : q.k = ys.length := by have := of_decide_eq_false hb0; omega
    exact It.done rfl (hI.ext (stJ _) (hE.trans h2)) (by rw [List.length_map, hge, List.take_length])

theorem some_lnC_seq (ys : List Ln) (v : Value) (g : Nat) (caps : List Value) (p : Ln → Bool) (w00 : World) (b1 b2 : Nat) (w : World) (hx : Ext w00 w) (hl : LR 4 lnC w00 v ys) (hg : FnOK Try.prog g) (hp : PredC g caps lnC p w00) (ra : Row w b1 30 [v]) (rb : Row w b2 80 [.func (.func g) #[] caps.toArray]) : SeqC Try.prog 44 [ptr b1, ptr b2] (fun b => (b < w00.heap.size ∨ b = b1 ∨ b = b2)) ((ys.filter p).map fun x => [Value.agg (lnC x).toArray]) w :=
  SeqC.of fun l J X stJ stX bJ hy S hS hSw h0 => some_lnC_walk ys v g caps p w00 b1 b2 w hx hl hg hp ra rb l J X stJ stX bJ hy S hS hSw h0

-- linchpin/locate.some[linchpin/api.Line]: parameters ['[]api.Line', 'func(api.Line) bool'] (free 0), results [('ResultVar.tmp', 4)], 6 slots
set_option maxRecDepth 100000 in
theorem some_lnC_any (v fv : Value) (w : World) (hs : ∃ a n c, v = .slice a n c) (hf : ∃ g a b, fv = .func g a b) :
    Calls Try.prog 25 [v, fv].toArray w fun e w' => ∃ v', e = .returned v' ∧ Ext w w' ∧ ∃ b1 b2, v' = .func (.func 44) #[] #[ptr b1, ptr b2] ∧ Row w' b1 30 [v] ∧ Row w' b2 80 [fv] ∧ w.heap.size ≤ b1 ∧ w.heap.size ≤ b2 := by
  obtain ⟨sa, sn, sc, rfl⟩ := hs
  obtain ⟨fg, fa, fb, rfl⟩ := hf
  refine calls_of Try.func25 rfl Try.ntmps25 rfl ?_
  refine EC.seq ?_
  -- region 0  locate.go:21
  refine EC.region (fun i => [2, 2, 1].getD i 0) [0, 1, 2] rfl ?_
  refine ER.st rfl rfl rfl rfl (fun w1 h1 => Stp.box rfl (fun w2 h2 s2 r2 => ⟨h2, ?_⟩))  -- 0.0: t2 := box
  have n0 := h1.size
  have n1 := (h1.trans h2).size
  refine ER.st rfl rfl rfl rfl (fun w3 h3 => Stp.box rfl (fun w4 h4 s4 r4 => ⟨h4, ?_⟩))  -- 0.1: t3 := box
  have n2 := h3.size
  refine ER.sil rfl rfl rfl rfl (Sil.assign rfl) ?_  -- 0.2: t4 := assign
  refine ER.nil (fun w5 h5 => ?_)
  refine AQ.then ?_
  refine EC.seq ?_
  -- region 1  locate.go:22
  refine EC.region (fun i => [1, 1].getD i 0) [0, 1] rfl ?_
  refine ER.sil rfl rfl rfl rfl (Sil.makeFunc rfl rfl) ?_  -- 1.0: t5 := makeFunc
  refine ER.sil rfl rfl rfl rfl (Sil.assign rfl) ?_  -- 1.1: t4 := assign
  refine ER.nil (fun w6 h6 => ?_)
  refine AQ.then ?_
  refine EC.ret ?_
  refine AQ.ret1 Try.results25 rfl ?_
  exact ⟨_, rfl, (((((h1.trans h2).trans h3).trans h4).trans h5).trans h6), w1.heap.size, w3.heap.size, rfl, (r2.ext (((h3.trans h4).trans h5).trans h6)), (r4.ext (h5.trans h6)), by omega, by omega⟩

-- linchpin/locate.some[linchpin/api.Inline]$1: parameters ['func(api.Inline) bool'] (free 2), results [], 22 slots
set_option maxRecDepth 100000 in
theorem some_ilC_walk (ys : List Il) (v : Value) (g : Nat) (caps : List Value) (p : Il → Bool) (w00 : World) (b1 b2 : Nat) (w : World) (hx : Ext w00 w) (hl : LR 6 ilC w00 v ys) (hg : FnOK Try.prog g) (hp : PredC g caps ilC p w00) (ra : Row w b1 32 [v]) (rb : Row w b2 85 [.func (.func g) #[] caps.toArray])
    (l : Nat) (J : Nat → (Nat → Prop) → World → Prop) (X : (Nat → Prop) → World → Prop) (stJ : ∀ k, Stays w.heap.size (J k)) (stX : Stays w.heap.size X) (bJ : ∀ k S W, J k S W → ∀ b, S b → b < W.heap.size) (hy : HY Try.prog l J X ((ys.filter p).map fun x => [Value.agg (ilC x).toArray]))
    (S : Nat → Prop) (hS : ∀ b, (b < w00.heap.size ∨ b = b1 ∨ b = b2) → ¬ S b) (hSw : ∀ b, S b → b < w.heap.size) (h0 : It S w (J 0) S w) :
    Calls Try.prog 46 [.func (.yield l) #[] #[], ptr b1, ptr b2].toArray w fun e w' => ∃ v S', e = .returned v ∧ Mod S w w' ∧ (∀ b, b < w.heap.size → S' b → S b) ∧ (J ((ys.filter p).map fun x => [Value.agg (ilC x).toArray]).length S' w' ∨ X S' w') := by
  have hm := hl.max
  refine calls_of Try.func46 rfl Try.ntmps46 rfl ?_
  refine EC.seq ?_
  -- region 0  locate.go:23
  refine EC.region (fun i => [0, 1, 1].getD i 0) [0, 1, 2] rfl ?_
  refine ER.ex rfl rfl rfl rfl (Exa.load flat32 rfl (ra.cell rfl)) ?_  -- 0.0: t6 := load
  refine ER.sil rfl rfl rfl rfl (Sil.lenR Try.underlying32 rfl (hl.isS)) ?_  -- 0.1: t7 := call
  refine ER.sil rfl rfl rfl rfl (Sil.move rfl) ?_  -- 0.2: t8 := move
  refine ER.nil (fun w1 h1 => ?_)
  refine AQ.then ?_
  refine EC.block ?_
  refine EC.loop (σ := SomS) (fun q => [(0, .func (.yield l) #[] #[]), (1, ptr b1), (2, ptr b2), (6, v), (7, .int .i64 (ys.length : Int)), (8, .int .i64 (q.k : Int))]) (fun q wr => It S w (J ((ys.take q.k).filter p).length) q.S wr ∧ q.k ≤ ys.length) (fun q => ys.length - q.k) ⟨0, S⟩ [0, 1, 2, 6, 7, 8] rfl ?_ (fun q wr hF => ?_)
  · exact ⟨h0.ext (stJ 0) h1, Nat.zero_le _⟩
  obtain ⟨hI, hk⟩ := hF
  have hE := Ext.refl wr
  have hw0 := hI.base hx (fun b hb => hS b (.inl hb))
  have q2 := hI.md.row rb (hS _ (.inr (.inr rfl)))
  refine EC.seq ?_
  -- region 1  locate.go:23
  refine EC.region (fun i => [1].getD i 0) [0] rfl ?_
  refine ER.sil rfl rfl rfl rfl (Sil.lss rfl rfl) ?_  -- 1.0: t9 := binOp
  refine ER.nil (fun w2 h2 => ?_)
  refine AQ.then ?_
  refine EC.seq ?_
  refine EC.cond rfl (fun hb0 => ?_) (fun hb0 => ?_)  -- cond 0: t9
  ·
    have hlt : q.k < ys.length := by have := of_decide_eq_true hb0; omega
    refine EC.skip ?_
    refine AQ.then ?_
    refine EC.seq ?_
    refine EC.block ?_
    refine EC.seq ?_
    -- region 2  locate.go:23
    refine EC.region (fun i => [1, 0, 2, 3].getD i 0) [0, 1, 2, 3] rfl ?_
    refine ER.sil rfl rfl rfl rfl (Sil.indexR Try.underlying32 inf57 rfl rfl (hl.isE (by omega)) (by omega) (by omega)) ?_  -- 2.0: t10 := indexAddr
    refine ER.ex rfl rfl rfl rfl (Exa.loadAgg (vs := (ilC (ys[q.k]))) agg57 rfl ((hl.at hlt).ext (hw0.trans (hE.trans h2)))) ?_  -- 2.1: t11 := load
    refine ER.st rfl rfl rfl rfl (fun w3 h3 => Stp.alloc inf57 (fun w4 h4 s4 r4 => ⟨h4, ?_⟩))  -- 2.2: t5 := alloc
    refine ER.bar rfl rfl rfl rfl (fun w5 h5 => Stp.store (by kernel_rfl) rfl rfl (r4.ext h5) rfl rfl (fun w6 u6 r6 => ?_))  -- 2.3: tNone := store
    have e6 := ((h3.trans h4).trans h5).upd u6 h3.size
    refine ER.nil (fun w7 h7 => ?_)
    refine AQ.then ?_
    refine EC.seq ?_
    cases hsp3 : p ys[q.k]
    ·
      -- region 3  locate.go:24
      refine EC.region (fun i => [0, 0, 0, 1, 1, 0, 3, 1, 1].getD i 0) [0, 1, 2, 3, 4, 5, 6, 7, 8] rfl ?_
      refine ER.ex rfl rfl rfl rfl (Exa.load flat85 rfl ((q2.ext (((hE.trans h2).trans e6).trans h7)).cell rfl)) ?_  -- 3.0: t12 := load
      refine ER.ex rfl rfl rfl rfl (Exa.loadAgg (vs := (ilC (ys[q.k]))) agg57 rfl ((r6.ext h7).at)) ?_  -- 3.1: t13 := load
      refine ER.ex rfl rfl rfl rfl (Exa.callC hg rfl rfl (fun wx hx => (hp ys[q.k] wx (hw0.trans ((((hE.trans h2).trans e6).trans h7).trans hx))))) ?_  -- 3.2: t14 := call
      refine ER.sil rfl rfl rfl rfl (Sil.move rfl) ?_  -- 3.3: t15 := move
      refine ER.skipG rfl rfl rfl rfl (by rw [hsp3]; rfl) rfl ?_  -- 3.4
      refine ER.skipG rfl rfl rfl rfl (by rw [hsp3]; rfl) rfl ?_  -- 3.5
      refine ER.skipG rfl rfl rfl rfl (by rw [hsp3]; rfl) rfl ?_  -- 3.6
      refine ER.skipG rfl rfl rfl rfl (by rw [hsp3]; rfl) rfl ?_  -- 3.7
      refine ER.sil rfl rfl rfl rfl (Sil.pick rfl rfl rfl) ?_  -- 3.8: t20 := pick
      rw [hsp3]
      refine ER.nil (fun w8 h8 => ?_)
      refine AQ.then ?_
      refine EC.cond rfl (fun hb1 => ?_) (fun hb1 => ?_)  -- cond 1: t20
      ·
        cases hb1
      ·
        refine EC.skip ?_
        refine AQ.blockNormal ?_
        refine AQ.then ?_
        -- region 4  locate.go:23
        refine EC.region (fun i => [1, 1].getD i 0) [0, 1] rfl ?_
        refine ER.sil rfl rfl rfl rfl (Sil.add rfl rfl) ?_  -- 4.0: t21 := binOp
        refine ER.sil rfl rfl rfl rfl (Sil.move rfl) ?_  -- 4.1: t8 := move
        refine ER.nil (fun w9 h9 => ?_)
        exact AQ.round ⟨q.k + 1, q.S⟩ [0, 1, 2, 6, 7, 8] (by rw [← wrap_succ hlt hm]; rfl) ⟨by simp only [filt_no hlt hsp3]; exact hI.ext (stJ _) (((((hE.trans h2).trans e6).trans h7).trans h8).trans h9), hlt⟩ (by simp only; omega)
    ·
      -- region 3  locate.go:24
      refine EC.region (fun i => [0, 0, 0, 1, 1, 0, 3, 1, 1].getD i 0) [0, 1, 2, 3, 4, 5, 6, 7, 8] rfl ?_
      refine ER.ex rfl rfl rfl rfl (Exa.load flat85 rfl ((q2.ext (((hE.trans h2).trans e6).trans h7)).cell rfl)) ?_  -- 3.0: t12 := load
      refine ER.ex rfl rfl rfl rfl (Exa.loadAgg (vs := (ilC (ys[q.k]))) agg57 rfl ((r6.ext h7).at)) ?_  -- 3.1: t13 := load
      refine ER.ex rfl rfl rfl rfl (Exa.callC hg rfl rfl (fun wx hx => (hp ys[q.k] wx (hw0.trans ((((hE.trans h2).trans e6).trans h7).trans hx))))) ?_  -- 3.2: t14 := call
      refine ER.sil rfl rfl rfl rfl (Sil.move rfl) ?_  -- 3.3: t15 := move
      refine ER.silD rfl rfl rfl rfl (by rw [hsp3]; rfl) rfl rfl (Sil.move rfl) ?_  -- 3.4: t16 := move
      refine ER.exD rfl rfl rfl rfl (by rw [hsp3]; rfl) rfl rfl (Exa.loadAgg (vs := (ilC (ys[q.k]))) agg57 rfl ((r6.ext h7).at)) ?_  -- 3.5: t17 := load
      --  -- 3.6: t18 := call
      have hci := filt_lt hlt hsp3
      refine ER.barG rfl rfl rfl rfl (by rw [hsp3]; rfl) rfl rfl (fun w10 h10 => Stp.yield rfl rfl (Yields.mono ((hI.ext (stJ _) ((((hE.trans h2).trans e6).trans h7).trans h10)).yields hy (i := ((ys.take q.k).filter p).length) (by rw [List.length_map]; exact hci) (by rw [List.getElem_map, filt_get hlt hsp3 hci])) ?_))
      rintro _ w11 ⟨S2, k11, n11, c, rfl, hct, hcf⟩
      refine ER.silD rfl rfl rfl rfl (by rw [hsp3]; rfl) rfl rfl (Sil.not rfl) ?_  -- 3.7: t19 := unOp
      refine ER.sil rfl rfl rfl rfl (Sil.pick rfl rfl rfl) ?_  -- 3.8: t20 := pick
      rw [hsp3]
      refine ER.nil (fun w12 h12 => ?_)
      refine AQ.then ?_
      refine EC.cond rfl (fun hb2 => ?_) (fun hb2 => ?_)  -- cond 2: t20
      ·
        refine EC.ret ?_
        refine AQ.blockRet ?_
        refine AQ.thenRet ?_
        refine AQ.thenRet ?_
        refine AQ.blockRet ?_
        refine AQ.ret0' Try.results46 ?_
        exact It.stop rfl ((hcf (by simpa using hb2)).ext stX h12)
      ·
        have hI2 := hct (by simpa using hb2)
        refine EC.skip ?_
        refine AQ.blockNormal ?_
        refine AQ.then ?_
        -- region 4  locate.go:23
        refine EC.region (fun i => [1, 1].getD i 0) [0, 1] rfl ?_
        refine ER.sil rfl rfl rfl rfl (Sil.add rfl rfl) ?_  -- 4.0: t21 := binOp
        refine ER.sil rfl rfl rfl rfl (Sil.move rfl) ?_  -- 4.1: t8 := move
        refine ER.nil (fun w13 h13 => ?_)
        exact AQ.round ⟨q.k + 1, S2⟩ [0, 1, 2, 6, 7, 8] (by rw [← wrap_succ hlt hm]; rfl) ⟨by simp only [filt_yes hlt hsp3, List.length_append, List.length_singleton]; exact hI2.ext (stJ _) (h12.trans h13), hlt⟩ (by simp only; omega)
  ·
    refine EC.exit ?_
    refine AQ.thenExit ?_
    refine AQ.thenExit ?_
    refine AQ.blockHit ?_
    refine AQ.ret0 Try.results46 ?_
    have hge : q.k = ys.length := by have := of_decide_eq_false hb0; omega
    exact It.done rfl (hI.ext (stJ _) (hE.trans h2)) (by rw [List.length_map, hge, List.take_length])

theorem some_ilC_seq (ys : List Il) (v : Value) (g : Nat) (caps : List Value) (p : Il → Bool) (w00 : World) (b1 b2 : Nat) (w : World) (hx : Ext w00 w) (hl : LR 6 ilC w00 v ys) (hg : FnOK Try.prog g) (hp : PredC g caps ilC p w00) (ra : Row w b1 32 [v]) (rb : Row w b2 85 [.func (.func g) #[] caps.toArray]) : SeqC Try.prog 46 [ptr b1, ptr b2] (fun b => (b < w00.heap.size ∨ b = b1 ∨ b = b2)) ((ys.filter p).map fun x => [Value.agg (ilC x).toArray]) w :=
  SeqC.of fun l J X stJ stX bJ hy S hS hSw h0 => some_ilC_walk ys v g caps p w00 b1 b2 w hx hl hg hp ra rb l J X stJ stX bJ hy S hS hSw h0

-- linchpin/locate.some[linchpin/api.Inline]: parameters ['[]api.Inline', 'func(api.Inline) bool'] (free 0), results [('ResultVar.tmp', 4)], 6 slots
set_option maxRecDepth 100000 in
theorem some_ilC_any (v fv : Value) (w : World) (hs : ∃ a n c, v = .slice a n c) (hf : ∃ g a b, fv = .func g a b) :
    Calls Try.prog 28 [v, fv].toArray w fun e w' => ∃ v', e = .returned v' ∧ Ext w w' ∧ ∃ b1 b2, v' = .func (.func 46) #[] #[ptr b1, ptr b2] ∧ Row w' b1 32 [v] ∧ Row w' b2 85 [fv] ∧ w.heap.size ≤ b1 ∧ w.heap.size ≤ b2 := by
  obtain ⟨sa, sn, sc, rfl⟩ := hs
  obtain ⟨fg, fa, fb, rfl⟩ := hf
  refine calls_of Try.func28 rfl Try.ntmps28 rfl ?_
  refine EC.seq ?_
  -- region 0  locate.go:21
  refine EC.region (fun i => [2, 2, 1].getD i 0) [0, 1, 2] rfl ?_
  refine ER.st rfl rfl rfl rfl (fun w1 h1 => Stp.box rfl (fun w2 h2 s2 r2 => ⟨h2, ?_⟩))  -- 0.0: t2 := box
  have n0 := h1.size
  have n1 := (h1.trans h2).size
  refine ER.st rfl rfl rfl rfl (fun w3 h3 => Stp.box rfl (fun w4 h4 s4 r4 => ⟨h4, ?_⟩))  -- 0.1: t3 := box
  have n2 := h3.size
  refine ER.sil rfl rfl rfl rfl (Sil.assign rfl) ?_  -- 0.2: t4 := assign
  refine ER.nil (fun w5 h5 => ?_)
  refine AQ.then ?_
  refine EC.seq ?_
  -- region 1  locate.go:22
  refine EC.region (fun i => [1, 1].getD i 0) [0, 1] rfl ?_
  refine ER.sil rfl rfl rfl rfl (Sil.makeFunc rfl rfl) ?_  -- 1.0: t5 := makeFunc
  refine ER.sil rfl rfl rfl rfl (Sil.assign rfl) ?_  -- 1.1: t4 := assign
  refine ER.nil (fun w6 h6 => ?_)
  refine AQ.then ?_
  refine EC.ret ?_
  refine AQ.ret1 Try.results28 rfl ?_
  exact ⟨_, rfl, (((((h1.trans h2).trans h3).trans h4).trans h5).trans h6), w1.heap.size, w3.heap.size, rfl, (r2.ext (((h3.trans h4).trans h5).trans h6)), (r4.ext (h5.trans h6)), by omega, by omega⟩

-- linchpin/locate.some[linchpin/api.Var]$1: parameters ['func(api.Var) bool'] (free 2), results [], 22 slots
set_option maxRecDepth 100000 in
theorem some_vrC_walk (ys : List Vr) (v : Value) (g : Nat) (caps : List Value) (p : Vr → Bool) (w00 : World) (b1 b2 : Nat) (w : World) (hx : Ext w00 w) (hl : LR 6 vrC w00 v ys) (hg : FnOK Try.prog g) (hp : PredC g caps vrC p w00) (ra : Row w b1 33 [v]) (rb : Row w b2 91 [.func (.func g) #[] caps.toArray])
    (l : Nat) (J : Nat → (Nat → Prop) → World → Prop) (X : (Nat → Prop) → World → Prop) (stJ : ∀ k, Stays w.heap.size (J k)) (stX : Stays w.heap.size X) (bJ : ∀ k S W, J k S W → ∀ b, S b → b < W.heap.size) (hy : HY Try.prog l J X ((ys.filter p).map fun x => [Value.agg (vrC x).toArray]))
    (S : Nat → Prop) (hS : ∀ b, (b < w00.heap.size ∨ b = b1 ∨ b = b2) → ¬ S b) (hSw : ∀ b, S b → b < w.heap.size) (h0 : It S w (J 0) S w) :
    Calls Try.prog 48 [.func (.yield l) #[] #[], ptr b1, ptr b2].toArray w fun e w' => ∃ v S', e = .returned v ∧ Mod S w w' ∧ (∀ b, b < w.heap.size → S' b → S b) ∧ (J ((ys.filter p).map fun x => [Value.agg (vrC x).toArray]).length S' w' ∨ X S' w') := by
  have hm := hl.max
  refine calls_of Try.func48 rfl Try.ntmps48 rfl ?_
  refine EC.seq ?_
  -- region 0  locate.go:23
  refine EC.region (fun i => [0, 1, 1].getD i 0) [0, 1, 2] rfl ?_
  refine ER.ex rfl rfl rfl rfl (Exa.load flat33 rfl (ra.cell rfl)) ?_  -- 0.0: t6 := load
  refine ER.sil rfl rfl rfl rfl (Sil.lenR Try.underlying33 rfl (hl.isS)) ?_  -- 0.1: t7 := call
  refine ER.sil rfl rfl rfl rfl (Sil.move rfl) ?_  -- 0.2: t8 := move
  refine ER.nil (fun w1 h1 => ?_)
  refine AQ.then ?_
  refine EC.block ?_
  refine EC.loop (σ := SomS) (fun q => [(0, .func (.yield l) #[] #[]), (1, ptr b1), (2, ptr b2), (6, v), (7, .int .i64 (ys.length : Int)), (8, .int .i64 (q.k : Int))]) (fun q wr => It S w (J ((ys.take q.k).filter p).length) q.S wr ∧ q.k ≤ ys.length) (fun q => ys.length - q.k) ⟨0, S⟩ [0, 1, 2, 6, 7, 8] rfl ?_ (fun q wr hF => ?_)
  · exact ⟨h0.ext (stJ 0) h1, Nat.zero_le _⟩
  obtain ⟨hI, hk⟩ := hF
  have hE := Ext.refl wr
  have hw0 := hI.base hx (fun b hb => hS b (.inl hb))
  have q2 := hI.md.row rb (hS _ (.inr (.inr rfl)))
  refine EC.seq ?_
  -- region 1  locate.go:23
  refine EC.region (fun i => [1].getD i 0) [0] rfl ?_
  refine ER.sil rfl rfl rfl rfl (Sil.lss rfl rfl) ?_  -- 1.0: t9 := binOp
  refine ER.nil (fun w2 h2 => ?_)
  refine AQ.then ?_
  refine EC.seq ?_
  refine EC.cond rfl (fun hb0 => ?_) (fun hb0 => ?_)  -- cond 0: t9
  ·
    have hlt : q.k < ys.length := by have := of_decide_eq_true hb0; omega
    refine EC.skip ?_
    refine AQ.then ?_
    refine EC.seq ?_
    refine EC.block ?_
    refine EC.seq ?_
    -- region 2  locate.go:23
    refine EC.region (fun i => [1, 0, 2, 3].getD i 0) [0, 1, 2, 3] rfl ?_
    refine ER.sil rfl rfl rfl rfl (Sil.indexR Try.underlying33 inf55 rfl rfl (hl.isE (by omega)) (by omega) (by omega)) ?_  -- 2.0: t10 := indexAddr
    refine ER.ex rfl rfl rfl rfl (Exa.loadAgg (vs := (vrC (ys[q.k]))) agg55 rfl ((hl.at hlt).ext (hw0.trans (hE.trans h2)))) ?_  -- 2.1: t11 := load
    refine ER.st rfl rfl rfl rfl (fun w3 h3 => Stp.alloc inf55 (fun w4 h4 s4 r4 => ⟨h4, ?_⟩))  -- 2.2: t5 := alloc
    refine ER.bar rfl rfl rfl rfl (fun w5 h5 => Stp.store (by kernel_rfl) rfl rfl (r4.ext h5) rfl rfl (fun w6 u6 r6 => ?_))  -- 2.3: tNone := store
    have e6 := ((h3.trans h4).trans h5).upd u6 h3.size
    refine ER.nil (fun w7 h7 => ?_)
    refine AQ.then ?_
    refine EC.seq ?_
    cases hsp3 : p ys[q.k]
    ·
      -- region 3  locate.go:24
      refine EC.region (fun i => [0, 0, 0, 1, 1, 0, 3, 1, 1].getD i 0) [0, 1, 2, 3, 4, 5, 6, 7, 8] rfl ?_
      refine ER.ex rfl rfl rfl rfl (Exa.load flat91 rfl ((q2.ext (((hE.trans h2).trans e6).trans h7)).cell rfl)) ?_  -- 3.0: t12 := load
      refine ER.ex rfl rfl rfl rfl (Exa.loadAgg (vs := (vrC (ys[q.k]))) agg55 rfl ((r6.ext h7).at)) ?_  -- 3.1: t13 := load
      refine ER.ex rfl rfl rfl rfl (Exa.callC hg rfl rfl (fun wx hx => (hp ys[q.k] wx (hw0.trans ((((hE.trans h2).trans e6).trans h7).trans hx))))) ?_  -- 3.2: t14 := call
      refine ER.sil rfl rfl rfl rfl (Sil.move rfl) ?_  -- 3.3: t15 := move
      refine ER.skipG rfl rfl rfl rfl (by rw [hsp3]; rfl) rfl ?_  -- 3.4
      refine ER.skipG rfl rfl rfl rfl (by rw [hsp3]; rfl) rfl ?_  -- 3.5
      refine ER.skipG rfl rfl rfl rfl (by rw [hsp3]; rfl) rfl ?_  -- 3.6
      refine ER.skipG rfl rfl rfl rfl (by rw [hsp3]; rfl) rfl ?_  -- 3.7
      refine ER.sil rfl rfl rfl rfl (Sil.pick rfl rfl rfl) ?_  -- 3.8: t20 := pick
      rw [hsp3]
      refine ER.nil (fun w8 h8 => ?_)
      refine AQ.then ?_
      refine EC.cond rfl (fun hb1 => ?_) (fun hb1 => ?_)  -- cond 1: t20
      ·
        cases hb1
      ·
        refine EC.skip ?_
        refine AQ.blockNormal ?_
        refine AQ.then ?_
        -- region 4  locate.go:23
        refine EC.region (fun i => [1, 1].getD i 0) [0, 1] rfl ?_
        refine ER.sil rfl rfl rfl rfl (Sil.add rfl rfl) ?_  -- 4.0: t21 := binOp
        refine ER.sil rfl rfl rfl rfl (Sil.move rfl) ?_  -- 4.1: t8 := move
        refine ER.nil (fun w9 h9 => ?_)
        exact AQ.round ⟨q.k + 1, q.S⟩ [0, 1, 2, 6, 7, 8] (by rw [← wrap_succ hlt hm]; rfl) ⟨by simp only [filt_no hlt hsp3]; exact hI.ext (stJ _) (((((hE.trans h2).trans e6).trans h7).trans h8).trans h9), hlt⟩ (by simp only; omega)
    ·
      -- region 3  locate.go:24
      refine EC.region (fun i => [0, 0, 0, 1, 1, 0, 3, 1, 1].getD i 0) [0, 1, 2, 3, 4, 5, 6, 7, 8] rfl ?_
      refine ER.ex rfl rfl rfl rfl (Exa.load flat91 rfl ((q2.ext (((hE.trans h2).trans e6).trans h7)).cell rfl)) ?_  -- 3.0: t12 := load
      refine ER.ex rfl rfl rfl rfl (Exa.loadAgg (vs := (vrC (ys[q.k]))) agg55 rfl ((r6.ext h7).at)) ?_  -- 3.1: t13 := load
      refine ER.ex rfl rfl rfl rfl (Exa.callC hg rfl rfl (fun wx hx => (hp ys[q.k] wx (hw0.trans ((((hE.trans h2).trans e6).trans h7).trans hx))))) ?_  -- 3.2: t14 := call
      refine ER.sil rfl rfl rfl rfl (Sil.move rfl) ?_  -- 3.3: t15 := move
      refine ER.silD rfl rfl rfl rfl (by rw [hsp3]; rfl) rfl rfl (Sil.move rfl) ?_  -- 3.4: t16 := move
      refine ER.exD rfl rfl rfl rfl (by rw [hsp3]; rfl) rfl rfl (Exa.loadAgg (vs := (vrC (ys[q.k]))) agg55 rfl ((r6.ext h7).at)) ?_  -- 3.5: t17 := load
      --  -- 3.6: t18 := call
      have hci := filt_lt hlt hsp3
      refine ER.barG rfl rfl rfl rfl (by rw [hsp3]; rfl) rfl rfl (fun w10 h10 => Stp.yield rfl rfl (Yields.mono ((hI.ext (stJ _) ((((hE.trans h2).trans e6).trans h7).trans h10)).yields hy (i := ((ys.take q.k).filter p).length) (by rw [List.length_map]; exact hci) (by rw [List.getElem_map, filt_get hlt hsp3 hci])) ?_))
      rintro _ w11 ⟨S2, k11, n11, c, rfl, hct, hcf⟩
      refine ER.silD rfl rfl rfl rfl (by rw [hsp3]; rfl) rfl rfl (Sil.not rfl) ?_  -- 3.7: t19 := unOp
      refine ER.sil rfl rfl rfl rfl (Sil.pick rfl rfl rfl) ?_  -- 3.8: t20 := pick
      rw [hsp3]
      refine ER.nil (fun w12 h12 => ?_)
      refine AQ.then ?_
      refine EC.cond rfl (fun hb2 => ?_) (fun hb2 => ?_)  -- cond 2: t20
      ·
        refine EC.ret ?_
        refine AQ.blockRet ?_
        refine AQ.thenRet ?_
        refine AQ.thenRet ?_
        refine AQ.blockRet ?_
        refine AQ.ret0' Try.results48 ?_
        exact It.stop rfl ((hcf (by simpa using hb2)).ext stX h12)
      ·
        have hI2 := hct (by simpa using hb2)
        refine EC.skip ?_
        refine AQ.blockNormal ?_
        refine AQ.then ?_
        -- region 4  locate.go:23
        refine EC.region (fun i => [1, 1].getD i 0) [0, 1] rfl ?_
        refine ER.sil rfl rfl rfl rfl (Sil.add rfl rfl) ?_  -- 4.0: t21 := binOp
        refine ER.sil rfl rfl rfl rfl (Sil.move rfl) ?_  -- 4.1: t8 := move
        refine ER.nil (fun w13 h13 => ?_)
        exact AQ.round ⟨q.k + 1, S2⟩ [0, 1, 2, 6, 7, 8] (by rw [← wrap_succ hlt hm]; rfl) ⟨by simp only [filt_yes hlt hsp3, List.length_append, List.length_singleton]; exact hI2.ext (stJ _) (h12.trans h13), hlt⟩ (by simp only; omega)
  ·
    refine EC.exit ?_
    refine AQ.thenExit ?_
    refine AQ.thenExit ?_
    refine AQ.blockHit ?_
    refine AQ.ret0 Try.results48 ?_
    have hge : q.k = ys.length := by have := of_decide_eq_false hb0; omega
    exact It.done rfl (hI.ext (stJ _) (hE.trans h2)) (by rw [List.length_map, hge, List.take_length])

theorem some_vrC_seq (ys : List Vr) (v : Value) (g : Nat) (caps : List Value) (p : Vr → Bool) (w00 : World) (b1 b2 : Nat) (w : World) (hx : Ext w00 w) (hl : LR 6 vrC w00 v ys) (hg : FnOK Try.prog g) (hp : PredC g caps vrC p w00) (ra : Row w b1 33 [v]) (rb : Row w b2 91 [.func (.func g) #[] caps.toArray]) : SeqC Try.prog 48 [ptr b1, ptr b2] (fun b => (b < w00.heap.size ∨ b = b1 ∨ b = b2)) ((ys.filter p).map fun x => [Value.agg (vrC x).toArray]) w :=
  SeqC.of fun l J X stJ stX bJ hy S hS hSw h0 => some_vrC_walk ys v g caps p w00 b1 b2 w hx hl hg hp ra rb l J X stJ stX bJ hy S hS hSw h0

-- linchpin/locate.some[linchpin/api.Var]: parameters ['[]api.Var', 'func(api.Var) bool'] (free 0), results [('ResultVar.tmp', 4)], 6 slots
set_option maxRecDepth 100000 in
theorem some_vrC_any (v fv : Value) (w : World) (hs : ∃ a n c, v = .slice a n c) (hf : ∃ g a b, fv = .func g a b) :
    Calls Try.prog 34 [v, fv].toArray w fun e w' => ∃ v', e = .returned v' ∧ Ext w w' ∧ ∃ b1 b2, v' = .func (.func 48) #[] #[ptr b1, ptr b2] ∧ Row w' b1 33 [v] ∧ Row w' b2 91 [fv] ∧ w.heap.size ≤ b1 ∧ w.heap.size ≤ b2 := by
  obtain ⟨sa, sn, sc, rfl⟩ := hs
  obtain ⟨fg, fa, fb, rfl⟩ := hf
  refine calls_of Try.func34 rfl Try.ntmps34 rfl ?_
  refine EC.seq ?_
  -- region 0  locate.go:21
  refine EC.region (fun i => [2, 2, 1].getD i 0) [0, 1, 2] rfl ?_
  refine ER.st rfl rfl rfl rfl (fun w1 h1 => Stp.box rfl (fun w2 h2 s2 r2 => ⟨h2, ?_⟩))  -- 0.0: t2 := box
  have n0 := h1.size
  have n1 := (h1.trans h2).size
  refine ER.st rfl rfl rfl rfl (fun w3 h3 => Stp.box rfl (fun w4 h4 s4 r4 => ⟨h4, ?_⟩))  -- 0.1: t3 := box
  have n2 := h3.size
  refine ER.sil rfl rfl rfl rfl (Sil.assign rfl) ?_  -- 0.2: t4 := assign
  refine ER.nil (fun w5 h5 => ?_)
  refine AQ.then ?_
  refine EC.seq ?_
  -- region 1  locate.go:22
  refine EC.region (fun i => [1, 1].getD i 0) [0, 1] rfl ?_
  refine ER.sil rfl rfl rfl rfl (Sil.makeFunc rfl rfl) ?_  -- 1.0: t5 := makeFunc
  refine ER.sil rfl rfl rfl rfl (Sil.assign rfl) ?_  -- 1.1: t4 := assign
  refine ER.nil (fun w6 h6 => ?_)
  refine AQ.then ?_
  refine EC.ret ?_
  refine AQ.ret1 Try.results34 rfl ?_
  exact ⟨_, rfl, (((((h1.trans h2).trans h3).trans h4).trans h5).trans h6), w1.heap.size, w3.heap.size, rfl, (r2.ext (((h3.trans h4).trans h5).trans h6)), (r4.ext (h5.trans h6)), by omega, by omega⟩

end Go.Proofs.Ytcgapppamhffjaa
