/- Bind: the scope, visited. -/
import Derived.Test.YtgagjmapjdeknaaW7
namespace Go.Proofs.Ytgagjmapjdeknaa
open Go.RowKit Go.XK Go.BindLaw

-- linchpin/bind.candidates: parameters ['[]api.Module', 'api.Module'] (free 0), results [('ResultVar.tmp', 4)], 6 slots
set_option maxRecDepth 100000 in
theorem cand_any (v : Value) (xcs : List Value) (w : World) (hs : ∃ a n c, v = .slice a n c) :
    Calls Try.prog 29 [v, .agg xcs.toArray].toArray w fun e w' => ∃ v', e = .returned v' ∧ Ext w w' ∧ ∃ b1 b2, v' = .func (.func 32) #[] #[ptr b1, ptr b2] ∧ Row w' b1 56 xcs ∧ Row w' b2 22 [v] ∧ w.heap.size ≤ b1 ∧ w.heap.size ≤ b2 := by
  obtain ⟨sa, sn, sc, rfl⟩ := hs
  refine calls_of Try.func29 rfl Try.ntmps29 rfl ?_
  refine EC.seq ?_
  -- region 0  bind.go:43
  refine EC.region (fun i => [2, 2, 1].getD i 0) [0, 1, 2] rfl ?_
  refine ER.st rfl rfl rfl rfl (fun w1 h1 => Stp.box rfl (fun w2 h2 s2 r2 => ⟨h2, ?_⟩))  -- 0.0: t2 := box
  have n0 := h1.size
  have n1 := (h1.trans h2).size
  refine ER.st rfl rfl rfl rfl (fun w3 h3 => Stp.box rfl (fun w4 h4 s4 r4 => ⟨h4, ?_⟩))  -- 0.1: t3 := box
  have n2 := h3.size
  refine ER.sil rfl rfl rfl rfl (Sil.assign rfl) ?_  -- 0.2: t4 := assign
  refine ER.nil (fun w5 h5 => ?_)
  refine AQ.then ?_
  refine EC.seq ?_
  -- region 1  bind.go:44
  refine EC.region (fun i => [1, 1].getD i 0) [0, 1] rfl ?_
  refine ER.sil rfl rfl rfl rfl (Sil.makeFunc rfl rfl) ?_  -- 1.0: t5 := makeFunc
  refine ER.sil rfl rfl rfl rfl (Sil.assign rfl) ?_  -- 1.1: t4 := assign
  refine ER.nil (fun w6 h6 => ?_)
  refine AQ.then ?_
  refine EC.ret ?_
  refine AQ.ret1 Try.results29 rfl ?_
  exact ⟨_, rfl, (((((h1.trans h2).trans h3).trans h4).trans h5).trans h6), w3.heap.size, w1.heap.size, rfl, (r4.ext (h5.trans h6)), (r2.ext (((h3.trans h4).trans h5).trans h6)), by omega, by omega⟩

-- linchpin/bind.scope$1: parameters ['func(int) bool'] (free 2), results [], 54 slots
set_option maxRecDepth 100000 in
theorem scope_walk (ms : List Mo) (v : Value) (m : Int) (w00 : World) (b1 b2 : Nat) (w : World) (hx : Ext w00 w) (hms : Mods w00 v ms) (ra : Row w b1 3 [.int .i64 m]) (rb : Row w b2 22 [v]) (hm8 : ms.length ≤ 1000)
    (l : Nat) (J : Nat → (Nat → Prop) → World → Prop) (X : (Nat → Prop) → World → Prop) (stJ : ∀ k, Stays w.heap.size (J k)) (stX : Stays w.heap.size X) (bJ : ∀ k S W, J k S W → ∀ b, S b → b < W.heap.size) (hy : HY Try.prog l J X ((scopeL ms m).map fun y => [Value.int .i64 y]))
    (S : Nat → Prop) (hS : ∀ b, (b < w00.heap.size ∨ b = b1 ∨ b = b2) → ¬ S b) (hSw : ∀ b, S b → b < w.heap.size) (h0 : It S w (J 0) S w) :
    Calls Try.prog 28 [.func (.yield l) #[] #[], ptr b1, ptr b2].toArray w fun e w' => ∃ v S', e = .returned v ∧ Mod S w w' ∧ (∀ b, b < w.heap.size → S' b → S b) ∧ (J ((scopeL ms m).map fun y => [Value.int .i64 y]).length S' w' ∨ X S' w') := by
  have hm := hms.max
  have hnd1 := hS _ (.inr (.inl rfl))
  have hnd2 := hS _ (.inr (.inr rfl))
  refine calls_ofM Try.func28 rfl Try.ntmps28 rfl ?_
  refine EC.seq ?_
  -- region 0  bind.go:64
  refine EC.region (fun i => [2].getD i 0) [0] rfl ?_
  refine ER.st rfl rfl rfl rfl (fun w1 h1 => Stp.box rfl (fun w2 h2 s2 r2 => ⟨h2, ?_⟩))  -- 0.0: t3 := box
  have n0 := h1.size
  refine ER.nil (fun w3 h3 => ?_)
  refine AQ.then ?_
  refine EC.seq ?_
  refine EC.seq ?_
  -- region 1  bind.go:65
  refine EC.region (fun i => [0, 1, 1, 0, 0, 1, 1, 1].getD i 0) [0, 1, 2, 3, 4, 5, 6, 7] rfl ?_
  refine ER.ex rfl rfl rfl rfl (Exa.load flat3 rfl ((ra.ext ((h1.trans h2).trans h3)).cell rfl)) ?_  -- 1.0: t6 := load
  refine ER.sil rfl rfl rfl rfl (Sil.lss rfl rfl) ?_  -- 1.1: t7 := binOp
  refine ER.sil rfl rfl rfl rfl (Sil.move rfl) ?_  -- 1.2: t8 := move
  refine ER.exG rfl rfl rfl rfl rfl rfl (fun hc => Exa.load flat3 rfl ((ra.ext ((h1.trans h2).trans h3)).cell rfl)) ?_  -- 1.3: t9 := load
  refine ER.exG rfl rfl rfl rfl rfl rfl (fun hc => Exa.load flat22 rfl ((rb.ext ((h1.trans h2).trans h3)).cell rfl)) ?_  -- 1.4: t10 := load
  refine ER.silG rfl rfl rfl rfl rfl rfl (fun hc => Sil.lenR Try.underlying22 (congrArg some (sel_eq hc _)) (Mods.isS hms)) ?_  -- 1.5: t11 := call
  refine ER.silG rfl rfl rfl rfl rfl rfl (fun hc => Sil.geq (congrArg some (sel_eq hc _)) (congrArg some (sel_eq hc _))) ?_  -- 1.6: t12 := binOp
  refine ER.sil rfl rfl rfl rfl (Sil.pickOr rfl rfl rfl) ?_  -- 1.7: t13 := pick
  refine ER.nil (fun w4 h4 => ?_)
  refine AQ.then ?_
  refine EC.cond rfl (fun hb0 => ?_) (fun hb0 => ?_)  -- cond 0: t13
  ·
    have hn : ¬ InR ms m := by unfold InR; simp at hb0; omega
    refine EC.ret ?_
    refine AQ.thenRet ?_
    exact AQ.outM (.inr rfl) [] (res0 Try.results28) (by simp) (by simp) (fun w' hm => It.done rfl ((h0.ext (stJ _) (((h1.trans h2).trans h3).trans h4)).mark0 (stJ _) hm) (by rw [scopeL, if_neg hn]; rfl))
  ·
    have hk : InR ms m := by unfold InR; simp at hb0; omega
    obtain ⟨cs, hcl, hcat, hco⟩ := hms.elem hk
    refine EC.skip ?_
    refine AQ.then ?_
    refine EC.seq ?_
    -- region 2  bind.go:68
    refine EC.region (fun i => [2, 2, 3].getD i 0) [0, 1, 2] rfl ?_
    have n1 := (((h1.trans h2).trans h3).trans h4).size
    have n5 := (r2.ext (h3.trans h4)).lt
    refine ER.st rfl rfl rfl rfl (fun w5 h5 => Stp.makeMap (Value.int .i64) (fun w6 h6 s6 r6 => ⟨h6, ?_⟩))  -- 2.0: t14 := makeMap
    have n2 := h5.size
    have n3 := r6.lt
    refine ER.st rfl rfl rfl rfl (fun w7 h7 => Stp.alloc inf75 (fun w8 h8 s8 r8 => ⟨h8, ?_⟩))  -- 2.1: t4 := alloc
    have n4 := h7.size
    refine ER.bar rfl rfl rfl rfl (fun w9 h9 => Stp.store (by kernel_rfl) rfl rfl (r8.ext h9) rfl rfl (fun w10 u10 r10 => ?_))  -- 2.2: tNone := store
    have e10 := ((h7.trans h8).trans h9).upd u10 h7.size
    refine ER.nil (fun w11 h11 => ?_)
    refine AQ.then ?_
    refine EC.seq ?_
    -- region 3  bind.go:69
    refine EC.draw (fun i => [0, 0, 0, 1, 0, 2].getD i 0) [0, 1, 2, 3, 4, 5] (by kernel_rfl) (by kernel_rfl) ?_
    refine ER.ex rfl rfl rfl rfl (Exa.load flat22 rfl ((rb.ext (((((((h1.trans h2).trans h3).trans h4).trans h5).trans h6).trans e10).trans h11)).cell rfl)) ?_  -- 3.0: t15 := load
    refine ER.ex rfl rfl rfl rfl (Exa.load flat22 rfl ((rb.ext (((((((h1.trans h2).trans h3).trans h4).trans h5).trans h6).trans e10).trans h11)).cell rfl)) ?_  -- 3.1: t16 := load
    refine ER.ex rfl rfl rfl rfl (Exa.load flat3 rfl ((ra.ext (((((((h1.trans h2).trans h3).trans h4).trans h5).trans h6).trans e10).trans h11)).cell rfl)) ?_  -- 3.2: t17 := load
    refine ER.sil rfl rfl rfl rfl (Sil.indexR Try.underlying22 inf56 rfl rfl (Mods.isE hms (by have := hk.1; have := hk.2; omega)) (hk.1) (hk.2)) ?_  -- 3.3: t18 := indexAddr
    refine ER.ex rfl rfl rfl rfl (Exa.loadAgg (vs := cs) (by rw [hcl]; exact agg56) rfl (hcat.ext (hx.trans (((((((h1.trans h2).trans h3).trans h4).trans h5).trans h6).trans e10).trans h11)))) ?_  -- 3.4: t19 := load
    have hes := (((((((h1.trans h2).trans h3).trans h4).trans h5).trans h6).trans e10).trans h11).size
    have hes3 := (r6.ext (e10.trans h11)).lt
    refine ER.st rfl rfl rfl rfl (fun w12 h12 => Stp.call fok29 rfl rfl (Calls.mono ((cand_any v cs w12 (by obtain ⟨sa, sc, hsv, _⟩ := hms.isS; exact ⟨sa, _, sc, hsv⟩))) ?_))  -- 3.5: t20 := call
    rintro _ w13 ⟨v13, rfl, h13, ⟨c1, c2, hv13, hc113, hc213, hl1, hl2⟩⟩
    refine ⟨v13, rfl, h13, ?_⟩
    subst hv13
    have hes2 := h12.size
    refine ER.nil (fun w14 h14 => ?_)
    refine AQ.then ?_
    refine EC.block ?_
    obtain ⟨bs, hbse⟩ : ∃ bs, w5.heap.size = bs := ⟨_, rfl⟩
    have hI0 := h0.ext (stJ 0) ((((((((((h1.trans h2).trans h3).trans h4).trans h5).trans h6).trans e10).trans h11).trans h12).trans h13).trans h14)
    have h30 := (r2.ext ((((((((h3.trans h4).trans h5).trans h6).trans e10).trans h11).trans h12).trans h13).trans h14))
    have h40 := (r10.ext (((h11.trans h12).trans h13).trans h14))
    have hm0 := (r6.ext ((((e10.trans h11).trans h12).trans h13).trans h14))
    rw [hbse] at h40 hm0
    have hc1 := (hc113.ext h14)
    have hc2 := (hc213.ext h14)
    have hbas := (((((((((((h1.trans h2).trans h3).trans h4).trans h5).trans h6).trans e10).trans h11).trans h12).trans h13).trans h14)).size
    have hl3 := h30.lt
    have hl4 := h40.lt
    have hl5 := hm0.lt
    have hbs : w.heap.size ≤ bs := by omega
    have h3s : w1.heap.size ≠ bs := by omega
    have h4s : w7.heap.size ≠ bs := by omega
    have hw1 := hx.trans ((((((((((h1.trans h2).trans h3).trans h4).trans h5).trans h6).trans e10).trans h11).trans h12).trans h13).trans h14)
    have hxs := hx.size
    refine EC.range (xs := (((candL ms (moAt ms m)).map fun y => [Value.int .i64 y]))) (mem := (fun b => b < w00.heap.size ∨ b = c1 ∨ b = c2)) rfl fok32 rfl (fun x hx => by obtain ⟨y, _, rfl⟩ := List.mem_map.1 hx; rfl)
      (fun j S1 W => ∃ Si, S1 = (fun b => Si b ∨ b = bs) ∧ It S w (J (keepL ms (moAt ms m) ((candL ms (moAt ms m)).take j) []).length) Si W ∧ Row W w1.heap.size 74 [.func (.yield l) #[] #[]] ∧ ¬ Si w1.heap.size ∧ Row W w7.heap.size 75 [.map (some bs)] ∧ ¬ Si w7.heap.size ∧ ∃ mm, MRow W bs (Value.int .i64) mm ∧ Seen mm (keepL ms (moAt ms m) ((candL ms (moAt ms m)).take j) []) ∧ ¬ Si bs)
      (fun c S1 W => c = .ret ∧ ∃ Si : Nat → Prop, (∀ b, Si b → S1 b) ∧ It S w X Si W)
      (fun j S1 W W' h m => by
            obtain ⟨Si, rfl, a1, a2, a3, a4, a5, mm, a6, a7, a8⟩ := h
            exact ⟨Si, rfl, a1.step (stJ _) (m.mono fun b _ hb => ⟨Nat.le_trans hbas hb.1, fun hs => hb.2 (.inl hs)⟩), m.row a2 (fun hb => by have := hb.1; omega), a3, m.row a4 (fun hb => by have := hb.1; omega), a5, mm, m.map a6 (fun hb => hb.2 (.inr rfl)), a7, a8⟩) (fun c S1 W W' h m => by
            obtain ⟨a1, Si, a2, a3⟩ := h
            exact ⟨a1, Si, a2, a3.step stX (m.mono fun b _ hb => ⟨Nat.le_trans hbas hb.1, fun hs => hb.2 (a2 b hs)⟩)⟩) (fun j S1 W h b hb => by
            obtain ⟨Si, rfl, a1, a2, a3, a4, a5, mm, a6, a7, a8⟩ := h
            rcases hb with hb | rfl
            · exact bJ _ _ _ a1.hj b hb
            · exact a6.lt)
      (fun W1 hW => cand_seq ms v (moAt ms m) cs w00 c1 c2 W1 (hw1.trans hW) hms hco (hc1.ext hW) (hc2.ext hW) hm8) (fun b => S b ∨ b = bs) (fun b hb => by
          rcases hb with h | rfl | rfl
          · exact ⟨fun hs => hs.elim (hS b (.inl h)) (fun e => by omega), Nat.lt_of_lt_of_le h hw1.size⟩
          · exact ⟨fun hs => hs.elim (fun hs => by have := hSw _ hs; omega) (fun e => by omega), hc1.lt⟩
          · exact ⟨fun hs => hs.elim (fun hs => by have := hSw _ hs; omega) (fun e => by omega), hc2.lt⟩) (⟨S, rfl, hI0, h30, (fun h => by have := hSw _ h; omega), h40, (fun h => by have := hSw _ h; omega), [], hm0, Seen.nil, (fun h => by have := hSw _ h; omega)⟩) (fun j => [(1, ptr b1), (2, ptr b2), (3, ptr w1.heap.size), (4, ptr w7.heap.size), (5, .int .i64 ((candL ms (moAt ms m)).getD j 0))]) ?_ ?_ ?_ ?_
    · intro lr kr wr hkr
      have hE := Ext.refl wr
      rw [map_get]
      -- region 4  bind.go:69
      refine EC.region (fun i => [1].getD i 0) [0] rfl ?_
      refine ER.sil rfl rfl rfl rfl (Sil.assign rfl) ?_  -- 4.0: t5 := assign
      refine ER.nil (fun w15 h15 => ?_)
      exact AQ.assigned [1, 2, 3, 4, 5] rfl (hE.trans h15)
    · intro lr kr Sr wr hkr hI hM
      have hE := Ext.refl wr
      obtain ⟨Si, rfl, hI, h3, n3, h4, n4, mm, hmm, hsn, nbs⟩ := hI
      have hkr2 : kr < (candL ms (moAt ms m)).length := by simpa using hkr
      have hcg : (candL ms (moAt ms m)).getD kr 0 = (candL ms (moAt ms m))[kr] := by simp [hkr2]
      have hin : InR ms ((candL ms (moAt ms m)).getD kr 0) := by rw [hcg]; exact candL_in _ (List.getElem_mem hkr2)
      have hw0 := hI.base hx (fun b hb => hS b (.inl hb))
      have q1 := hI.md.row ra hnd1
      have q2 := hI.md.row rb hnd2
      refine EC.block ?_
      refine EC.seq ?_
      refine EC.seq ?_
      -- region 5  bind.go:70
      refine EC.region (fun i => [0, 1, 0, 1, 0, 1, 1, 1, 0, 1, 1, 1, 0, 1, 1, 1, 0, 1, 0, 0, 1, 1, 0, 1, 1, 1].getD i 0) [0, 1, 2, 3, 4, 5, 6, 7, 8, 9, 10, 11, 12, 13, 14, 15, 16, 17, 18, 19, 20, 21, 22, 23, 24, 25] rfl ?_
      refine ER.ex rfl rfl rfl rfl (Exa.load flat75 rfl ((h4.ext hE).cell rfl)) ?_  -- 5.0: t22 := load
      refine ER.sil rfl rfl rfl rfl (Sil.move rfl) ?_  -- 5.1: t23 := move
      refine ER.ex rfl rfl rfl rfl (Exa.lookup Try.underlying75 (KeyOK.int Try.underlying3) inf4 rfl rfl (hmm.ext hE)) ?_  -- 5.2: t24 := lookup
      rw [hsn.get _]
      refine ER.sil rfl rfl rfl rfl (Sil.move rfl) ?_  -- 5.3: t25 := move
      refine ER.exG rfl rfl rfl rfl rfl rfl (fun hc => Exa.load flat22 rfl ((q2.ext hE).cell rfl)) ?_  -- 5.4: t26 := load
      refine ER.silG rfl rfl rfl rfl rfl rfl (fun hc => Sil.move rfl) ?_  -- 5.5: t27 := move
      refine ER.silG rfl rfl rfl rfl rfl rfl (fun hc => Sil.indexR Try.underlying22 inf56 (congrArg some (sel_eq hc _)) (congrArg some (sel_eq hc _)) (Mods.isE hms (by have := hin.1; have := hin.2; omega)) (hin.1) (hin.2)) ?_  -- 5.6: t28 := indexAddr
      refine ER.silG rfl rfl rfl rfl rfl rfl (fun hc => Sil.fieldAddr Try.underlying56 rfl inf3 (congrArg some (sel_eq hc _))) ?_  -- 5.7: t29 := fieldAddr
      refine ER.exG rfl rfl rfl rfl rfl rfl (fun hc => Exa.load flat3 (congrArg some (sel_eq hc _)) (Mods.base (hms.ext (hw0.trans hE)) hin)) ?_  -- 5.8: t30 := load
      refine ER.silG rfl rfl rfl rfl rfl rfl (fun hc => Sil.lss (congrArg some (sel_eq hc _)) rfl) ?_  -- 5.9: t31 := binOp
      refine ER.sil rfl rfl rfl rfl (Sil.pickOr rfl rfl rfl) ?_  -- 5.10: t32 := pick
      refine ER.sil rfl rfl rfl rfl (Sil.move rfl) ?_  -- 5.11: t33 := move
      refine ER.exG rfl rfl rfl rfl rfl rfl (fun hc => Exa.load flat22 rfl ((q2.ext hE).cell rfl)) ?_  -- 5.12: t34 := load
      refine ER.silG rfl rfl rfl rfl rfl rfl (fun hc => Sil.move rfl) ?_  -- 5.13: t35 := move
      refine ER.silG rfl rfl rfl rfl rfl rfl (fun hc => Sil.indexR Try.underlying22 inf56 (congrArg some (sel_eq hc _)) (congrArg some (sel_eq hc _)) (Mods.isE hms (by have := hin.1; have := hin.2; omega)) (hin.1) (hin.2)) ?_  -- 5.14: t36 := indexAddr
      refine ER.silG rfl rfl rfl rfl rfl rfl (fun hc => Sil.fieldAddr Try.underlying56 rfl inf4 (congrArg some (sel_eq hc _))) ?_  -- 5.15: t37 := fieldAddr
      refine ER.exG rfl rfl rfl rfl rfl rfl (fun hc => Exa.load flat4 (congrArg some (sel_eq hc _)) (Mods.gone (hms.ext (hw0.trans hE)) hin)) ?_  -- 5.16: t38 := load
      refine ER.silG rfl rfl rfl rfl rfl rfl (fun hc => Sil.move (congrArg some (sel_eq hc _))) ?_  -- 5.17: t39 := move
      refine ER.exGG rfl rfl rfl rfl rfl rfl (fun hp hc => Exa.load flat22 rfl ((q2.ext hE).cell rfl)) ?_  -- 5.18: t40 := load
      refine ER.exGG rfl rfl rfl rfl rfl rfl (fun hp hc => Exa.load flat3 rfl ((q1.ext hE).cell rfl)) ?_  -- 5.19: t41 := load
      refine ER.silGG rfl rfl rfl rfl rfl rfl (fun hp hc => Sil.indexR Try.underlying22 inf56 (congrArg some (sel_2 hp hc _)) (congrArg some (sel_2 hp hc _)) (Mods.isE hms (by have := hk.1; have := hk.2; omega)) (hk.1) (hk.2)) ?_  -- 5.20: t42 := indexAddr
      refine ER.silGG rfl rfl rfl rfl rfl rfl (fun hp hc => Sil.fieldAddr Try.underlying56 rfl inf4 (congrArg some (sel_2 hp hc _))) ?_  -- 5.21: t43 := fieldAddr
      refine ER.exGG rfl rfl rfl rfl rfl rfl (fun hp hc => Exa.load flat4 (congrArg some (sel_2 hp hc _)) (Mods.gone (hms.ext (hw0.trans hE)) hk)) ?_  -- 5.22: t44 := load
      refine ER.silGG rfl rfl rfl rfl rfl rfl (fun hp hc => Sil.not (congrArg some (sel_2 hp hc _))) ?_  -- 5.23: t45 := unOp
      refine ER.silG rfl rfl rfl rfl rfl rfl (fun hc => Sil.pickAnd (congrArg some (sel_eq hc _)) (congrArg some (sel_in hc _ _)) rfl) ?_  -- 5.24: t46 := pick
      refine ER.sil rfl rfl rfl rfl (Sil.pickOr rfl rfl rfl) ?_  -- 5.25: t47 := pick
      refine ER.nil (fun w16 h16 => ?_)
      refine AQ.then ?_
      refine EC.cond rfl (fun hb1 => ?_) (fun hb1 => ?_)  -- cond 1: t47
      ·
        have hkp : keep1 ms (moAt ms m) (keepL ms (moAt ms m) ((candL ms (moAt ms m)).take kr) []) (candL ms (moAt ms m))[kr] = (keepL ms (moAt ms m) ((candL ms (moAt ms m)).take kr) []) := keep_no (by rw [← hcg]; exact hb1)
        refine EC.exit ?_
        refine AQ.thenExit ?_
        refine AQ.blockHit ?_
        refine AQ.rqN (fun b => Si b ∨ b = bs) ((hE.trans h16).mod _) (fun b _ h => h) ⟨Si, rfl, ?_, h3.ext (hE.trans h16), n3, h4.ext (hE.trans h16), n4, mm, hmm.ext (hE.trans h16), ?_, nbs⟩
        · rw [keepL_take _ _ _ _ hkr2, hkp]
          exact hI.ext (stJ _) (hE.trans h16)
        · rw [keepL_take _ _ _ _ hkr2, hkp]
          exact hsn
      ·
        have hkp : keep1 ms (moAt ms m) (keepL ms (moAt ms m) ((candL ms (moAt ms m)).take kr) []) (candL ms (moAt ms m))[kr] = (keepL ms (moAt ms m) ((candL ms (moAt ms m)).take kr) []) ++ [(candL ms (moAt ms m))[kr]] := keep_yes (by rw [← hcg]; exact hb1)
        obtain ⟨hsl, hsv⟩ := scope_get hk hkr2 rfl hkp
        refine EC.skip ?_
        refine AQ.then ?_
        refine EC.seq ?_
        -- region 6  bind.go:73
        refine EC.region (fun i => [0, 1, 3].getD i 0) [0, 1, 2] rfl ?_
        refine ER.ex rfl rfl rfl rfl (Exa.load flat75 rfl ((h4.ext (hE.trans h16)).cell rfl)) ?_  -- 6.0: t48 := load
        refine ER.sil rfl rfl rfl rfl (Sil.move rfl) ?_  -- 6.1: t49 := move
        --  -- 6.2: tNone := mapUpdate
        refine ER.bar rfl rfl rfl rfl (fun w17 h17 => Stp.mapUpdate Try.underlying75 (KeyOK.int Try.underlying3) rfl rfl rfl (hmm.ext ((hE.trans h16).trans h17)) (fun w18 u18 m18 => ?_))
        have hM2 := ((((hE.trans h16).trans h17)).mod (fun b => Si b ∨ b = bs)).trans (u18.mod (S := fun b => Si b ∨ b = bs) (.inr rfl))
        have hI2 := (hI.ext (stJ _) ((hE.trans h16).trans h17)).step (stJ _) (u18.mod ⟨hbs, nbs⟩)
        have h3b := u18.row (h3.ext ((hE.trans h16).trans h17)) h3s
        have h4b := u18.row (h4.ext ((hE.trans h16).trans h17)) h4s
        have hsn2 := hsn.put ((candL ms (moAt ms m)).getD kr 0)
        refine ER.nil (fun w19 h19 => ?_)
        refine AQ.then ?_
        refine EC.seq ?_
        -- region 7  bind.go:74
        refine EC.region (fun i => [0, 1, 3, 1].getD i 0) [0, 1, 2, 3] rfl ?_
        refine ER.ex rfl rfl rfl rfl (Exa.load flat74 rfl ((h3b.ext h19).cell rfl)) ?_  -- 7.0: t50 := load
        refine ER.sil rfl rfl rfl rfl (Sil.move rfl) ?_  -- 7.1: t51 := move
        --  -- 7.2: t52 := call
        refine ER.bar rfl rfl rfl rfl (fun w20 h20 => Stp.yield rfl rfl (Yields.mono ((hI2.ext (stJ _) (h19.trans h20)).yields hy (i := (keepL ms (moAt ms m) ((candL ms (moAt ms m)).take kr) []).length) (by rw [List.length_map]; exact hsl) (by rw [List.getElem_map, hsv, ← hcg])) ?_))
        rintro _ w21 ⟨S2, k21, n21, c, rfl, hct, hcf⟩
        have hM3 := (hM2.trans (((h19.trans h20)).mod _)).trans (k21.mono (T := fun b => Si b ∨ b = bs) (fun b _ hb => .inl hb))
        have holdm : ∀ b, b < wr.heap.size → (S2 b ∨ b = bs) → (Si b ∨ b = bs) := fun b hb hs => hs.imp (fun hs => n21 b (Nat.lt_of_lt_of_le hb (hM2.trans (((h19.trans h20)).mod _)).size) hs) id
        have h3c := k21.row (h3b.ext (h19.trans h20)) n3
        have n3c := fun hb => n3 (n21 _ (h3b.ext (h19.trans h20)).lt hb)
        have h4c := k21.row (h4b.ext (h19.trans h20)) n4
        have n4c := fun hb => n4 (n21 _ (h4b.ext (h19.trans h20)).lt hb)
        have hmc := k21.map ((m18.ext h19).ext h20) nbs
        have nbc := fun hb => nbs (n21 _ ((m18.ext h19).ext h20).lt hb)
        refine ER.sil rfl rfl rfl rfl (Sil.not rfl) ?_  -- 7.3: t53 := unOp
        refine ER.nil (fun w22 h22 => ?_)
        refine AQ.then ?_
        refine EC.cond rfl (fun hb2 => ?_) (fun hb2 => ?_)  -- cond 2: t53
        ·
          refine EC.ret ?_
          refine AQ.blockRet ?_
          exact AQ.rqR (fun b => S2 b ∨ b = bs) (hM3.trans (h22.mod _)) holdm ⟨rfl, S2, fun b hb => .inl hb, (hcf (by simpa using hb2)).ext stX h22⟩
        ·
          have hI3 := hct (by simpa using hb2)
          refine EC.skip ?_
          refine AQ.blockNormal ?_
          refine AQ.rqN (fun b => S2 b ∨ b = bs) (hM3.trans (h22.mod _)) holdm ⟨S2, rfl, ?_, h3c.ext h22, n3c, h4c.ext h22, n4c, _, hmc.ext h22, ?_, nbc⟩
          · rw [keepL_take _ _ _ _ hkr2, hkp]
            simp only [List.length_append, List.length_singleton]
            exact hI3.ext (stJ _) h22
          · rw [keepL_take _ _ _ _ hkr2, hkp, ← hcg]
            exact hsn2
    · intro D Sr wr hD hM hold hnD hDr hI
      have hE := Ext.refl wr
      refine AQ.blockNormal ?_
      obtain ⟨Si, rfl, hI, _⟩ := hI
      exact AQ.outM (.inl rfl) [D] (res0 Try.results28) (by simp) (by simpa using hDr) (fun w' hm => It.done rfl (hI.mark (stJ _) (Nat.le_trans hbas hD) (fun h => hnD (.inl h)) hm) (by rw [List.length_map, List.length_map, List.take_length, scopeL, if_pos hk, scopeOf]))
    · intro D c Sr wr hD hM hold hnD hDr hX
      have hE := Ext.refl wr
      obtain ⟨rfl, Si, hsub, hX⟩ := hX
      refine EC.ret ?_
      refine AQ.blockRet ?_
      exact AQ.outM (.inr rfl) [D] (res0 Try.results28) (by simp) (by simpa using hDr) (fun w' hm => It.stop rfl (hX.mark stX (Nat.le_trans hbas hD) (fun h => hnD (hsub _ h)) hm))

theorem scope_seq (ms : List Mo) (v : Value) (m : Int) (w00 : World) (b1 b2 : Nat) (w : World) (hx : Ext w00 w) (hms : Mods w00 v ms) (ra : Row w b1 3 [.int .i64 m]) (rb : Row w b2 22 [v]) (hm8 : ms.length ≤ 1000) : SeqC Try.prog 28 [ptr b1, ptr b2] (fun b => (b < w00.heap.size ∨ b = b1 ∨ b = b2)) ((scopeL ms m).map fun y => [Value.int .i64 y]) w :=
  SeqC.of fun l J X stJ stX bJ hy S hS hSw h0 => scope_walk ms v m w00 b1 b2 w hx hms ra rb hm8 l J X stJ stX bJ hy S hS hSw h0

-- linchpin/bind.scope: parameters ['[]api.Module', 'int'] (free 0), results [('ResultVar.tmp', 4)], 6 slots
set_option maxRecDepth 100000 in
theorem scope_any (m : Int) (v : Value) (w : World) (hs : ∃ a n c, v = .slice a n c) :
    Calls Try.prog 22 [v, .int .i64 m].toArray w fun e w' => ∃ v', e = .returned v' ∧ Ext w w' ∧ ∃ b1 b2, v' = .func (.func 28) #[] #[ptr b1, ptr b2] ∧ Row w' b1 3 [.int .i64 m] ∧ Row w' b2 22 [v] ∧ w.heap.size ≤ b1 ∧ w.heap.size ≤ b2 := by
  obtain ⟨sa, sn, sc, rfl⟩ := hs
  refine calls_of Try.func22 rfl Try.ntmps22 rfl ?_
  refine EC.seq ?_
  -- region 0  bind.go:63
  refine EC.region (fun i => [2, 2, 1].getD i 0) [0, 1, 2] rfl ?_
  refine ER.st rfl rfl rfl rfl (fun w1 h1 => Stp.box rfl (fun w2 h2 s2 r2 => ⟨h2, ?_⟩))  -- 0.0: t2 := box
  have n0 := h1.size
  have n1 := (h1.trans h2).size
  refine ER.st rfl rfl rfl rfl (fun w3 h3 => Stp.box rfl (fun w4 h4 s4 r4 => ⟨h4, ?_⟩))  -- 0.1: t3 := box
  have n2 := h3.size
  refine ER.sil rfl rfl rfl rfl (Sil.assign rfl) ?_  -- 0.2: t4 := assign
  refine ER.nil (fun w5 h5 => ?_)
  refine AQ.then ?_
  refine EC.seq ?_
  -- region 1  bind.go:64
  refine EC.region (fun i => [1, 1].getD i 0) [0, 1] rfl ?_
  refine ER.sil rfl rfl rfl rfl (Sil.makeFunc rfl rfl) ?_  -- 1.0: t5 := makeFunc
  refine ER.sil rfl rfl rfl rfl (Sil.assign rfl) ?_  -- 1.1: t4 := assign
  refine ER.nil (fun w6 h6 => ?_)
  refine AQ.then ?_
  refine EC.ret ?_
  refine AQ.ret1 Try.results22 rfl ?_
  exact ⟨_, rfl, (((((h1.trans h2).trans h3).trans h4).trans h5).trans h6), w3.heap.size, w1.heap.size, rfl, (r4.ext (h5.trans h6)), (r2.ext (((h3.trans h4).trans h5).trans h6)), by omega, by omega⟩

end Go.Proofs.Ytgagjmapjdeknaa
