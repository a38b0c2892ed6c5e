/- Bind: the candidates, visited. -/
import Derived.Test.YtgagjmapjdeknaaW6
namespace Go.Proofs.Ytgagjmapjdeknaa
open Go.RowKit Go.XK Go.BindLaw

structure CanS where
  S : Nat → Prop
structure CanK where
  k : Nat
  S : Nat → Prop

-- linchpin/bind.closure: parameters ['[]api.Module', 'int'] (free 0), results [('ResultVar.tmp', 4)], 6 slots
set_option maxRecDepth 100000 in
theorem closure_any (k : Int) (v : Value) (w : World) (hs : ∃ a n c, v = .slice a n c) :
    Calls Try.prog 33 [v, .int .i64 k].toArray w fun e w' => ∃ v', e = .returned v' ∧ Ext w w' ∧ ∃ b1 b2, v' = .func (.func 38) #[] #[ptr b1, ptr b2] ∧ Row w' b1 3 [.int .i64 k] ∧ Row w' b2 22 [v] ∧ w.heap.size ≤ b1 ∧ w.heap.size ≤ b2 := by
  obtain ⟨sa, sn, sc, rfl⟩ := hs
  refine calls_of Try.func33 rfl Try.ntmps33 rfl ?_
  refine EC.seq ?_
  -- region 0  bind.go:22
  refine EC.region (fun i => [2, 2, 1].getD i 0) [0, 1, 2] rfl ?_
  refine ER.st rfl rfl rfl rfl (fun w1 h1 => Stp.box rfl (fun w2 h2 s2 r2 => ⟨h2, ?_⟩))  -- 0.0: t2 := box
  have n0 := h1.size
  have n1 := (h1.trans h2).size
  refine ER.st rfl rfl rfl rfl (fun w3 h3 => Stp.box rfl (fun w4 h4 s4 r4 => ⟨h4, ?_⟩))  -- 0.1: t3 := box
  have n2 := h3.size
  refine ER.sil rfl rfl rfl rfl (Sil.assign rfl) ?_  -- 0.2: t4 := assign
  refine ER.nil (fun w5 h5 => ?_)
  refine AQ.then ?_
  refine EC.seq ?_
  -- region 1  bind.go:23
  refine EC.region (fun i => [1, 1].getD i 0) [0, 1] rfl ?_
  refine ER.sil rfl rfl rfl rfl (Sil.makeFunc rfl rfl) ?_  -- 1.0: t5 := makeFunc
  refine ER.sil rfl rfl rfl rfl (Sil.assign rfl) ?_  -- 1.1: t4 := assign
  refine ER.nil (fun w6 h6 => ?_)
  refine AQ.then ?_
  refine EC.ret ?_
  refine AQ.ret1 Try.results33 rfl ?_
  exact ⟨_, rfl, (((((h1.trans h2).trans h3).trans h4).trans h5).trans h6), w3.heap.size, w1.heap.size, rfl, (r4.ext (h5.trans h6)), (r2.ext (((h3.trans h4).trans h5).trans h6)), by omega, by omega⟩

-- linchpin/bind.candidates$1: parameters ['func(int) bool'] (free 2), results [], 49 slots
set_option maxRecDepth 100000 in
theorem cand_walk (ms : List Mo) (v : Value) (x : Mo) (xcs : List Value) (w00 : World) (b1 b2 : Nat) (w : World) (hx : Ext w00 w) (hms : Mods w00 v ms) (hxc : MoC w00 xcs x) (ra : Row w b1 56 xcs) (rb : Row w b2 22 [v]) (hm8 : ms.length ≤ 1000)
    (l : Nat) (J : Nat → (Nat → Prop) → World → Prop) (X : (Nat → Prop) → World → Prop) (stJ : ∀ k, Stays w.heap.size (J k)) (stX : Stays w.heap.size X) (bJ : ∀ k S W, J k S W → ∀ b, S b → b < W.heap.size) (hy : HY Try.prog l J X ((candL ms x).map fun y => [Value.int .i64 y]))
    (S : Nat → Prop) (hS : ∀ b, (b < w00.heap.size ∨ b = b1 ∨ b = b2) → ¬ S b) (hSw : ∀ b, S b → b < w.heap.size) (h0 : It S w (J 0) S w) :
    Calls Try.prog 32 [.func (.yield l) #[] #[], ptr b1, ptr b2].toArray w fun e w' => ∃ v S', e = .returned v ∧ Mod S w w' ∧ (∀ b, b < w.heap.size → S' b → S b) ∧ (J ((candL ms x).map fun y => [Value.int .i64 y]).length S' w' ∨ X S' w') := by
  have hm := hms.max
  have hnd1 := hS _ (.inr (.inl rfl))
  have hnd2 := hS _ (.inr (.inr rfl))
  refine calls_ofM Try.func32 rfl Try.ntmps32 rfl ?_
  refine EC.seq ?_
  -- region 0  bind.go:44
  refine EC.region (fun i => [2].getD i 0) [0] rfl ?_
  refine ER.st rfl rfl rfl rfl (fun w1 h1 => Stp.box rfl (fun w2 h2 s2 r2 => ⟨h2, ?_⟩))  -- 0.0: t3 := box
  have n0 := h1.size
  refine ER.nil (fun w3 h3 => ?_)
  refine AQ.then ?_
  refine EC.join (σ := CanS) (fun q => [(1, ptr b1), (2, ptr b2), (3, ptr w1.heap.size)]) (fun q wr => It S w (J (cand1 ms x).length) q.S wr ∧ Row wr w1.heap.size 74 [.func (.yield l) #[] #[]] ∧ ¬ q.S w1.heap.size) ?_ (fun q wr hF => ?_)
  ·
    refine EC.seq ?_
    -- region 1  bind.go:45
    refine EC.region (fun i => [1, 0, 1].getD i 0) [0, 1, 2] rfl ?_
    refine ER.sil rfl rfl rfl rfl (Sil.fieldAddr Try.underlying56 rfl inf3 rfl) ?_  -- 1.0: t7 := fieldAddr
    refine ER.ex rfl rfl rfl rfl (Exa.load flat3 rfl (((ra.ext ((h1.trans h2).trans h3))).cell hxc.spaceC)) ?_  -- 1.1: t8 := load
    refine ER.sil rfl rfl rfl rfl (Sil.eql rfl rfl) ?_  -- 1.2: t9 := binOp
    refine ER.nil (fun w4 h4 => ?_)
    refine AQ.then ?_
    refine EC.cond rfl (fun hb0 => ?_) (fun hb0 => ?_)  -- cond 0: t9
    ·
      refine EC.seq ?_
      -- region 2  bind.go:46
      refine EC.region (fun i => [0, 1, 1].getD i 0) [0, 1, 2] rfl ?_
      refine ER.ex rfl rfl rfl rfl (Exa.load flat22 rfl ((rb.ext (((h1.trans h2).trans h3).trans h4)).cell rfl)) ?_  -- 2.0: t10 := load
      refine ER.sil rfl rfl rfl rfl (Sil.lenR Try.underlying22 rfl (Mods.isS hms)) ?_  -- 2.1: t11 := call
      refine ER.sil rfl rfl rfl rfl (Sil.move rfl) ?_  -- 2.2: t12 := move
      refine ER.nil (fun w5 h5 => ?_)
      refine AQ.then ?_
      refine EC.block ?_
      refine EC.loop (σ := CanK) (fun q => [(1, ptr b1), (2, ptr b2), (3, ptr w1.heap.size), (10, v), (11, .int .i64 (ms.length : Int)), (12, .int .i64 (q.k : Int))]) (fun q wr => It S w (J (mainTo ms q.k).length) q.S wr ∧ Row wr w1.heap.size 74 [.func (.yield l) #[] #[]] ∧ ¬ q.S w1.heap.size ∧ q.k ≤ ms.length) (fun q => ms.length - q.k) ⟨0, S⟩ [1, 2, 3, 10, 11, 12] rfl ?_ (fun q wr hF => ?_)
      · exact ⟨h0.ext (stJ 0) ((((h1.trans h2).trans h3).trans h4).trans h5), (r2.ext ((h3.trans h4).trans h5)), (fun h => by have := hSw _ h; omega), Nat.zero_le _⟩
      obtain ⟨hI, h3, n3, hk⟩ := hF
      have hE := Ext.refl wr
      have hw0 := hI.base hx (fun b hb => hS b (.inl hb))
      refine EC.seq ?_
      -- region 3  bind.go:46
      refine EC.region (fun i => [1].getD i 0) [0] rfl ?_
      refine ER.sil rfl rfl rfl rfl (Sil.lss rfl rfl) ?_  -- 3.0: t13 := binOp
      refine ER.nil (fun w6 h6 => ?_)
      refine AQ.then ?_
      refine EC.seq ?_
      refine EC.cond rfl (fun hb1 => ?_) (fun hb1 => ?_)  -- cond 1: t13
      ·
        have hlt : q.k < ms.length := by have := of_decide_eq_true hb1; omega
        obtain ⟨cs, hcl, hcat, hco⟩ := hms.elem (hms.inR hlt)
        refine EC.skip ?_
        refine AQ.then ?_
        refine EC.seq ?_
        refine EC.block ?_
        refine EC.seq ?_
        -- region 4  bind.go:46
        refine EC.region (fun i => [1, 1, 0, 2, 1, 3].getD i 0) [0, 1, 2, 3, 4, 5] rfl ?_
        refine ER.sil rfl rfl rfl rfl (Sil.move rfl) ?_  -- 4.0: t14 := move
        refine ER.sil rfl rfl rfl rfl (Sil.indexR Try.underlying22 inf56 rfl rfl (Mods.isE hms (by omega)) (by omega) (by omega)) ?_  -- 4.1: t15 := indexAddr
        refine ER.ex rfl rfl rfl rfl (Exa.loadAgg (vs := cs) (by rw [hcl]; exact agg56) rfl (hcat.ext (hw0.trans (hE.trans h6)))) ?_  -- 4.2: t16 := load
        refine ER.st rfl rfl rfl rfl (fun w7 h7 => Stp.alloc inf56 (fun w8 h8 s8 r8 => ⟨h8, ?_⟩))  -- 4.3: t5 := alloc
        refine ER.sil rfl rfl rfl rfl (Sil.assign rfl) ?_  -- 4.4: t4 := assign
        refine ER.bar rfl rfl rfl rfl (fun w9 h9 => Stp.store (mo_sz hcl) rfl rfl (r8.ext h9) (mo_len hcl rfl) (mo_one hco.one) (fun w10 u10 r10 => ?_))  -- 4.5: tNone := store
        have e10 := ((h7.trans h8).trans h9).upd u10 h7.size
        refine ER.nil (fun w11 h11 => ?_)
        refine AQ.then ?_
        refine EC.seq ?_
        cases hsp5 : ((moAt ms (q.k : Int)).space == 0 && (moAt ms (q.k : Int)).root == 0)
        ·
          -- region 5  bind.go:47
          have hmain : isMain (moAt ms (q.k : Int)) = ((moAt ms (q.k : Int)).space == 0 && (moAt ms (q.k : Int)).root == 0) := rfl
          refine EC.region (fun i => [1, 0, 1, 1, 1, 0, 1, 1, 1, 0, 1, 3, 1, 1].getD i 0) [0, 1, 2, 3, 4, 5, 6, 7, 8, 9, 10, 11, 12, 13] rfl ?_
          refine ER.sil rfl rfl rfl rfl (Sil.fieldAddr Try.underlying56 rfl inf3 rfl) ?_  -- 5.0: t17 := fieldAddr
          refine ER.ex rfl rfl rfl rfl (Exa.load flat3 rfl (((r10.ext h11)).cell hco.spaceC)) ?_  -- 5.1: t18 := load
          refine ER.sil rfl rfl rfl rfl (Sil.eql rfl rfl) ?_  -- 5.2: t19 := binOp
          refine ER.sil rfl rfl rfl rfl (Sil.move rfl) ?_  -- 5.3: t20 := move
          refine ER.silG rfl rfl rfl rfl rfl rfl (fun hc => Sil.fieldAddr Try.underlying56 rfl inf3 rfl) ?_  -- 5.4: t21 := fieldAddr
          refine ER.exG rfl rfl rfl rfl rfl rfl (fun hc => Exa.load flat3 (congrArg some (sel_eq hc _)) (((r10.ext h11)).cell hco.rootC)) ?_  -- 5.5: t22 := load
          refine ER.silG rfl rfl rfl rfl rfl rfl (fun hc => Sil.eql (congrArg some (sel_eq hc _)) rfl) ?_  -- 5.6: t23 := binOp
          refine ER.sil rfl rfl rfl rfl (Sil.pickAnd rfl rfl rfl) ?_  -- 5.7: t24 := pick
          refine ER.sil rfl rfl rfl rfl (Sil.move rfl) ?_  -- 5.8: t25 := move
          refine ER.skipG rfl rfl rfl rfl (by rw [hsp5]; rfl) rfl ?_  -- 5.9
          refine ER.skipG rfl rfl rfl rfl (by rw [hsp5]; rfl) rfl ?_  -- 5.10
          refine ER.skipG rfl rfl rfl rfl (by rw [hsp5]; rfl) rfl ?_  -- 5.11
          refine ER.skipG rfl rfl rfl rfl (by rw [hsp5]; rfl) rfl ?_  -- 5.12
          refine ER.sil rfl rfl rfl rfl (Sil.pick rfl rfl rfl) ?_  -- 5.13: t30 := pick
          rw [hsp5]
          refine ER.nil (fun w12 h12 => ?_)
          refine AQ.then ?_
          refine EC.cond rfl (fun hb2 => ?_) (fun hb2 => ?_)  -- cond 2: t30
          ·
            cases hb2
          ·
            refine EC.skip ?_
            refine AQ.blockNormal ?_
            refine AQ.then ?_
            -- region 6  bind.go:46
            refine EC.region (fun i => [1, 1].getD i 0) [0, 1] rfl ?_
            refine ER.sil rfl rfl rfl rfl (Sil.add rfl rfl) ?_  -- 6.0: t31 := binOp
            refine ER.sil rfl rfl rfl rfl (Sil.move rfl) ?_  -- 6.1: t12 := move
            refine ER.nil (fun w13 h13 => ?_)
            have hst : mainTo ms (q.k + 1) = (mainTo ms q.k) := by rw [mainTo, if_neg (by rw [hmain, hsp5]; exact Bool.false_ne_true)]
            exact AQ.round ⟨q.k + 1, q.S⟩ [1, 2, 3, 10, 11, 12] (by rw [← wrap_succ hlt hm]; rfl) ⟨by simp only [hst]; exact hI.ext (stJ _) (((((hE.trans h6).trans e10).trans h11).trans h12).trans h13), h3.ext (((((hE.trans h6).trans e10).trans h11).trans h12).trans h13), n3, hlt⟩ (by simp only; omega)
        ·
          -- region 5  bind.go:47
          have hmain : isMain (moAt ms (q.k : Int)) = ((moAt ms (q.k : Int)).space == 0 && (moAt ms (q.k : Int)).root == 0) := rfl
          refine EC.region (fun i => [1, 0, 1, 1, 1, 0, 1, 1, 1, 0, 1, 3, 1, 1].getD i 0) [0, 1, 2, 3, 4, 5, 6, 7, 8, 9, 10, 11, 12, 13] rfl ?_
          refine ER.sil rfl rfl rfl rfl (Sil.fieldAddr Try.underlying56 rfl inf3 rfl) ?_  -- 5.0: t17 := fieldAddr
          refine ER.ex rfl rfl rfl rfl (Exa.load flat3 rfl (((r10.ext h11)).cell hco.spaceC)) ?_  -- 5.1: t18 := load
          refine ER.sil rfl rfl rfl rfl (Sil.eql rfl rfl) ?_  -- 5.2: t19 := binOp
          refine ER.sil rfl rfl rfl rfl (Sil.move rfl) ?_  -- 5.3: t20 := move
          refine ER.silG rfl rfl rfl rfl rfl rfl (fun hc => Sil.fieldAddr Try.underlying56 rfl inf3 rfl) ?_  -- 5.4: t21 := fieldAddr
          refine ER.exG rfl rfl rfl rfl rfl rfl (fun hc => Exa.load flat3 (congrArg some (sel_eq hc _)) (((r10.ext h11)).cell hco.rootC)) ?_  -- 5.5: t22 := load
          refine ER.silG rfl rfl rfl rfl rfl rfl (fun hc => Sil.eql (congrArg some (sel_eq hc _)) rfl) ?_  -- 5.6: t23 := binOp
          refine ER.sil rfl rfl rfl rfl (Sil.pickAnd rfl rfl rfl) ?_  -- 5.7: t24 := pick
          refine ER.sil rfl rfl rfl rfl (Sil.move rfl) ?_  -- 5.8: t25 := move
          refine ER.exD rfl rfl rfl rfl (by rw [hsp5]; rfl) rfl rfl (Exa.load flat74 rfl ((h3.ext (((hE.trans h6).trans e10).trans h11)).cell rfl)) ?_  -- 5.9: t26 := load
          refine ER.silD rfl rfl rfl rfl (by rw [hsp5]; rfl) rfl rfl (Sil.move rfl) ?_  -- 5.10: t27 := move
          --  -- 5.11: t28 := call
          obtain ⟨hci, hcv⟩ := cand_get (show x.space = 0 by simpa using hb0) hlt (hmain.trans hsp5)
          have hst : mainTo ms (q.k + 1) = mainTo ms q.k ++ [(q.k : Int)] := by rw [mainTo, if_pos (hmain.trans hsp5)]
          refine ER.barG rfl rfl rfl rfl (by rw [hsp5]; rfl) rfl rfl (fun w14 h14 => Stp.yield rfl rfl (Yields.mono ((hI.ext (stJ _) ((((hE.trans h6).trans e10).trans h11).trans h14)).yields hy (i := (mainTo ms q.k).length) (by rw [List.length_map]; exact hci) (by rw [List.getElem_map]; exact congrArg (fun z => [Value.int .i64 z]) hcv)) ?_))
          rintro _ w15 ⟨S2, k15, n15, c, rfl, hct, hcf⟩
          have h3b := k15.row (h3.ext ((((hE.trans h6).trans e10).trans h11).trans h14)) n3
          have n3b := fun hb => n3 (n15 _ (h3.ext ((((hE.trans h6).trans e10).trans h11).trans h14)).lt hb)
          refine ER.silD rfl rfl rfl rfl (by rw [hsp5]; rfl) rfl rfl (Sil.not rfl) ?_  -- 5.12: t29 := unOp
          refine ER.sil rfl rfl rfl rfl (Sil.pick rfl rfl rfl) ?_  -- 5.13: t30 := pick
          rw [hsp5]
          refine ER.nil (fun w16 h16 => ?_)
          refine AQ.then ?_
          refine EC.cond rfl (fun hb3 => ?_) (fun hb3 => ?_)  -- cond 3: t30
          ·
            refine EC.ret ?_
            refine AQ.blockRet ?_
            refine AQ.thenRet ?_
            refine AQ.thenRet ?_
            refine AQ.blockRet ?_
            refine AQ.thenRet ?_
            exact AQ.outM (.inr rfl) [] (res0 Try.results32) (by simp) (by simp) (fun w' hm => It.stop rfl (((hcf (by simpa using hb3)).ext stX h16).mark0 stX hm))
          ·
            have hI2 := hct (by simpa using hb3)
            refine EC.skip ?_
            refine AQ.blockNormal ?_
            refine AQ.then ?_
            -- region 6  bind.go:46
            refine EC.region (fun i => [1, 1].getD i 0) [0, 1] rfl ?_
            refine ER.sil rfl rfl rfl rfl (Sil.add rfl rfl) ?_  -- 6.0: t31 := binOp
            refine ER.sil rfl rfl rfl rfl (Sil.move rfl) ?_  -- 6.1: t12 := move
            refine ER.nil (fun w17 h17 => ?_)
            exact AQ.round ⟨q.k + 1, S2⟩ [1, 2, 3, 10, 11, 12] (by rw [← wrap_succ hlt hm]; rfl) ⟨by simp only [hst, List.length_append, List.length_singleton]; exact hI2.ext (stJ _) (h16.trans h17), h3b.ext (h16.trans h17), n3b, hlt⟩ (by simp only; omega)
      ·
        refine EC.exit ?_
        refine AQ.thenExit ?_
        refine AQ.thenExit ?_
        refine AQ.blockHit ?_
        have hge : q.k = ms.length := by have := of_decide_eq_false hb1; omega
        have hc1 : (cand1 ms x) = (mainTo ms q.k) := by rw [cand1, if_pos (by simpa using hb0), mainL, hge]
        exact AQ.join ⟨q.S⟩ [1, 2, 3] rfl ⟨hc1 ▸ hI.ext (stJ _) (hE.trans h6), h3.ext (hE.trans h6), n3⟩
    ·
      refine EC.skip ?_
      have hc1 : (cand1 ms x) = [] := by rw [cand1, if_neg (by simpa using hb0)]
      exact AQ.join ⟨S⟩ [1, 2, 3] rfl ⟨hc1 ▸ h0.ext (stJ 0) (((h1.trans h2).trans h3).trans h4), (r2.ext (h3.trans h4)), (fun h => by have := hSw _ h; omega)⟩
  obtain ⟨hI, h3, n3⟩ := hF
  have hE := Ext.refl wr
  have hw0 := hI.base hx (fun b hb => hS b (.inl hb))
  have q1 := hI.md.row ra hnd1
  have q2 := hI.md.row rb hnd2
  refine EC.seq ?_
  -- region 7  bind.go:52
  refine EC.region (fun i => [1, 0, 1, 1, 1, 0, 1, 1].getD i 0) [0, 1, 2, 3, 4, 5, 6, 7] rfl ?_
  refine ER.sil rfl rfl rfl rfl (Sil.fieldAddr Try.underlying56 rfl inf3 rfl) ?_  -- 7.0: t32 := fieldAddr
  refine ER.ex rfl rfl rfl rfl (Exa.load flat3 rfl ((q1.ext hE).cell hxc.spaceC)) ?_  -- 7.1: t33 := load
  refine ER.sil rfl rfl rfl rfl (Sil.neq rfl rfl) ?_  -- 7.2: t34 := binOp
  refine ER.sil rfl rfl rfl rfl (Sil.move rfl) ?_  -- 7.3: t35 := move
  refine ER.silG rfl rfl rfl rfl rfl rfl (fun hc => Sil.fieldAddr Try.underlying56 rfl inf3 rfl) ?_  -- 7.4: t36 := fieldAddr
  refine ER.exG rfl rfl rfl rfl rfl rfl (fun hc => Exa.load flat3 (congrArg some (sel_eq hc _)) ((q1.ext hE).cell hxc.rootC)) ?_  -- 7.5: t37 := load
  refine ER.silG rfl rfl rfl rfl rfl rfl (fun hc => Sil.neq (congrArg some (sel_eq hc _)) rfl) ?_  -- 7.6: t38 := binOp
  refine ER.sil rfl rfl rfl rfl (Sil.pickOr rfl rfl rfl) ?_  -- 7.7: t39 := pick
  refine ER.nil (fun w18 h18 => ?_)
  refine AQ.then ?_
  refine EC.cond rfl (fun hb4 => ?_) (fun hb4 => ?_)  -- cond 4: t39
  ·
    have hclo : hasClo x = true := hb4
    have hcl : candL ms x = cand1 ms x ++ cloL ms x.root := by rw [candL, cand2, if_pos hclo]
    refine EC.seq ?_
    -- region 8  bind.go:53
    refine EC.region (fun i => [0, 1, 0, 2].getD i 0) [0, 1, 2, 3] rfl ?_
    refine ER.ex rfl rfl rfl rfl (Exa.load flat22 rfl ((q2.ext (hE.trans h18)).cell rfl)) ?_  -- 8.0: t40 := load
    refine ER.sil rfl rfl rfl rfl (Sil.fieldAddr Try.underlying56 rfl inf3 rfl) ?_  -- 8.1: t41 := fieldAddr
    refine ER.ex rfl rfl rfl rfl (Exa.load flat3 rfl ((q1.ext (hE.trans h18)).cell hxc.rootC)) ?_  -- 8.2: t42 := load
    have hes := (hE.trans h18).size
    refine ER.st rfl rfl rfl rfl (fun w19 h19 => Stp.call fok33 rfl rfl (Calls.mono ((closure_any x.root v w19 (by obtain ⟨sa, sc, hsv, _⟩ := hms.isS; exact ⟨sa, _, sc, hsv⟩))) ?_))  -- 8.3: t43 := call
    rintro _ w20 ⟨v20, rfl, h20, ⟨c1, c2, hv20, hc120, hc220, hl1, hl2⟩⟩
    refine ⟨v20, rfl, h20, ?_⟩
    subst hv20
    have hes2 := h19.size
    refine ER.nil (fun w21 h21 => ?_)
    refine AQ.then ?_
    refine EC.block ?_
    have hI0 := hI.ext (stJ _) ((((hE.trans h18).trans h19).trans h20).trans h21)
    have hw1 := hw0.trans ((((hE.trans h18).trans h19).trans h20).trans h21)
    have h30 := h3.ext ((((hE.trans h18).trans h19).trans h20).trans h21)
    have hc1 := (hc120.ext h21)
    have hc2 := (hc220.ext h21)
    have hlt3 := h30.lt
    have hbas := hI0.md.size
    have hbb := bJ _ _ _ hI.hj
    refine EC.range (xs := (((cloL ms x.root).map fun y => [Value.int .i64 y]))) (mem := (fun b => b < w00.heap.size ∨ b = c1 ∨ b = c2)) rfl fok38 rfl (fun x hx => by obtain ⟨y, _, rfl⟩ := List.mem_map.1 hx; rfl)
      (fun j S1 W => It S w (J ((cand1 ms x).length + j)) S1 W ∧ Row W w1.heap.size 74 [.func (.yield l) #[] #[]] ∧ ¬ S1 w1.heap.size)
      (fun c S1 W => c = .ret ∧ It S w X S1 W)
      (fun j S1 W W' h m => ⟨h.1.step (stJ _) (m.mono fun b _ hb => ⟨Nat.le_trans hbas hb.1, hb.2⟩), m.row h.2.1 (fun hb => by have := hb.1; omega), h.2.2⟩) (fun c S1 W W' h m => ⟨h.1, h.2.step stX (m.mono fun b _ hb => ⟨Nat.le_trans hbas hb.1, hb.2⟩)⟩) (fun j S1 W h => bJ _ _ _ h.1.hj)
      (fun W1 hW => closure_seq ms v x.root w00 c1 c2 W1 (hw1.trans hW) hms (hc1.ext hW) (hc2.ext hW) hm8) (q.S) (fun b hb => by
          rcases hb with h | rfl | rfl
          · exact ⟨hI.notOld (Nat.lt_of_lt_of_le h hx.size) (hS b (.inl h)), Nat.lt_of_lt_of_le h hw1.size⟩
          · exact ⟨fun hs => (by have := hbb _ hs; omega), hc1.lt⟩
          · exact ⟨fun hs => (by have := hbb _ hs; omega), hc2.lt⟩) (⟨hI0, h30, n3⟩) (fun j => [(3, ptr w1.heap.size), (6, .int .i64 ((cloL ms x.root).getD j 0))]) ?_ ?_ ?_ ?_
    · intro lr kr wr hkr
      have hE := Ext.refl wr
      rw [map_get]
      -- region 9  bind.go:53
      refine EC.region (fun i => [1].getD i 0) [0] rfl ?_
      refine ER.sil rfl rfl rfl rfl (Sil.assign rfl) ?_  -- 9.0: t6 := assign
      refine ER.nil (fun w22 h22 => ?_)
      exact AQ.assigned [3, 6] rfl (hE.trans h22)
    · intro lr kr Sr wr hkr hI hM
      have hE := Ext.refl wr
      refine EC.block ?_
      refine EC.seq ?_
      -- region 10  bind.go:54
      refine EC.region (fun i => [0, 1, 3, 1].getD i 0) [0, 1, 2, 3] rfl ?_
      refine ER.ex rfl rfl rfl rfl (Exa.load flat74 rfl ((hI.2.1.ext hE).cell rfl)) ?_  -- 10.0: t45 := load
      refine ER.sil rfl rfl rfl rfl (Sil.move rfl) ?_  -- 10.1: t46 := move
      --  -- 10.2: t47 := call
      refine ER.bar rfl rfl rfl rfl (fun w23 h23 => Stp.yield rfl rfl (Yields.mono ((hI.1.ext (stJ _) (hE.trans h23)).yields hy (i := (cand1 ms x).length + kr) (by rw [List.length_map, hcl, List.length_append]; rw [List.length_map] at hkr; omega) (by simp only [hcl]; exact map_get2 _ _ _ (by simpa using hkr) _)) ?_))
      rintro _ w24 ⟨S2, k24, n24, c, rfl, hct, hcf⟩
      have hmm := (((hE.trans h23)).mod Sr).trans k24
      have holdm := fun b (hb : b < wr.heap.size) (hs : S2 b) => n24 b (Nat.lt_of_lt_of_le hb ((hE.trans h23)).size) hs
      have h3b := k24.row (hI.2.1.ext (hE.trans h23)) hI.2.2
      have n3b := fun hb => hI.2.2 (n24 _ (hI.2.1.ext (hE.trans h23)).lt hb)
      refine ER.sil rfl rfl rfl rfl (Sil.not rfl) ?_  -- 10.3: t48 := unOp
      refine ER.nil (fun w25 h25 => ?_)
      refine AQ.then ?_
      refine EC.cond rfl (fun hb5 => ?_) (fun hb5 => ?_)  -- cond 5: t48
      ·
        refine EC.ret ?_
        refine AQ.blockRet ?_
        exact AQ.rqR S2 (hmm.trans (h25.mod _)) holdm ⟨rfl, (hcf (by simpa using hb5)).ext stX h25⟩
      ·
        have hI2 := hct (by simpa using hb5)
        refine EC.skip ?_
        refine AQ.blockNormal ?_
        exact AQ.rqN S2 (hmm.trans (h25.mod _)) holdm ⟨hI2.ext (stJ _) h25, h3b.ext h25, n3b⟩
    · intro D Sr wr hD hM hold hnD hDr hI
      have hE := Ext.refl wr
      refine AQ.blockNormal ?_
      exact AQ.outM (.inl rfl) [D] (res0 Try.results32) (by simp) (by simpa using hDr) (fun w' hm => It.done rfl (hI.1.mark (stJ _) (Nat.le_trans hbas hD) hnD hm) (by rw [hcl]; simp))
    · intro D c Sr wr hD hM hold hnD hDr hX
      have hE := Ext.refl wr
      obtain ⟨rfl, hX⟩ := hX
      refine EC.ret ?_
      refine AQ.blockRet ?_
      exact AQ.outM (.inr rfl) [D] (res0 Try.results32) (by simp) (by simpa using hDr) (fun w' hm => It.stop rfl (hX.mark stX (Nat.le_trans hbas hD) hnD hm))
  ·
    refine EC.skip ?_
    have hcl : candL ms x = cand1 ms x := by rw [candL, cand2, if_neg (by rw [show hasClo x = false from hb4]; exact Bool.false_ne_true), List.append_nil]
    exact AQ.outM (.inl rfl) [] (res0 Try.results32) (by simp) (by simp) (fun w' hm => It.done rfl ((hI.ext (stJ _) (hE.trans h18)).mark0 (stJ _) hm) (by rw [hcl, List.length_map]))

theorem cand_seq (ms : List Mo) (v : Value) (x : Mo) (xcs : List Value) (w00 : World) (b1 b2 : Nat) (w : World) (hx : Ext w00 w) (hms : Mods w00 v ms) (hxc : MoC w00 xcs x) (ra : Row w b1 56 xcs) (rb : Row w b2 22 [v]) (hm8 : ms.length ≤ 1000) : SeqC Try.prog 32 [ptr b1, ptr b2] (fun b => (b < w00.heap.size ∨ b = b1 ∨ b = b2)) ((candL ms x).map fun y => [Value.int .i64 y]) w :=
  SeqC.of fun l J X stJ stX bJ hy S hS hSw h0 => cand_walk ms v x xcs w00 b1 b2 w hx hms hxc ra rb hm8 l J X stJ stX bJ hy S hS hSw h0

end Go.Proofs.Ytgagjmapjdeknaa
