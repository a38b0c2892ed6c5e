/- Bind: the closure, visited. -/
import Derived.Test.YtgagjmapjdeknaaBase2
namespace Go.Proofs.Ytgagjmapjdeknaa
open Go.RowKit Go.XK Go.BindLaw

structure CloS where
  i : Nat
  S : Nat → Prop
  m : List (Int × Value)
  v : Value
structure CloR where
  j : Nat
  m : List (Int × Value)
  v : Value

-- linchpin/bind.closure$1: parameters ['func(int) bool'] (free 2), results [], 65 slots
set_option maxRecDepth 100000 in
theorem closure_walk (ms : List Mo) (v : Value) (k : Int) (w00 : World) (b1 b2 : Nat) (w : World) (hx : Ext w00 w) (hms : Mods w00 v ms) (r1 : Row w b1 3 [.int .i64 k]) (r2 : Row w b2 22 [v]) (hm8 : ms.length ≤ 1000)
    (l : Nat) (J : Nat → (Nat → Prop) → World → Prop) (X : (Nat → Prop) → World → Prop) (stJ : ∀ k, Stays w.heap.size (J k)) (stX : Stays w.heap.size X) (bJ : ∀ k S W, J k S W → ∀ b, S b → b < W.heap.size) (hy : HY Try.prog l J X ((cloL ms k).map fun x => [Value.int .i64 x]))
    (S : Nat → Prop) (hS : ∀ b, (b < w00.heap.size ∨ b = b1 ∨ b = b2) → ¬ S b) (hSw : ∀ b, S b → b < w.heap.size) (h0 : It S w (J 0) S w) :
    Calls Try.prog 38 [.func (.yield l) #[] #[], ptr b1, ptr b2].toArray w fun e w' => ∃ v S', e = .returned v ∧ Mod S w w' ∧ (∀ b, b < w.heap.size → S' b → S b) ∧ (J ((cloL ms k).map fun x => [Value.int .i64 x]).length S' w' ∨ X S' w') := by
  have hm := hms.max
  refine calls_of Try.func38 rfl Try.ntmps38 rfl ?_
  refine EC.seq ?_
  refine EC.seq ?_
  -- region 0  bind.go:24
  refine EC.region (fun i => [0, 1, 1, 0, 0, 1, 1, 1].getD i 0) [0, 1, 2, 3, 4, 5, 6, 7] rfl ?_
  refine ER.ex rfl rfl rfl rfl (Exa.load flat3 rfl (r1.cell rfl)) ?_  -- 0.0: t8 := load
  refine ER.sil rfl rfl rfl rfl (Sil.lss rfl rfl) ?_  -- 0.1: t9 := binOp
  refine ER.sil rfl rfl rfl rfl (Sil.move rfl) ?_  -- 0.2: t10 := move
  refine ER.exG rfl rfl rfl rfl rfl rfl (fun hc => Exa.load flat3 rfl (r1.cell rfl)) ?_  -- 0.3: t11 := load
  refine ER.exG rfl rfl rfl rfl rfl rfl (fun hc => Exa.load flat22 rfl (r2.cell rfl)) ?_  -- 0.4: t12 := load
  refine ER.silG rfl rfl rfl rfl rfl rfl (fun hc => Sil.lenR Try.underlying22 (congrArg some (sel_eq hc _)) (Mods.isS hms)) ?_  -- 0.5: t13 := call
  refine ER.silG rfl rfl rfl rfl rfl rfl (fun hc => Sil.geq (congrArg some (sel_eq hc _)) (congrArg some (sel_eq hc _))) ?_  -- 0.6: t14 := binOp
  refine ER.sil rfl rfl rfl rfl (Sil.pickOr rfl rfl rfl) ?_  -- 0.7: t15 := pick
  refine ER.nil (fun w1 h1 => ?_)
  refine AQ.then ?_
  refine EC.cond rfl (fun hb0 => ?_) (fun hb0 => ?_)  -- cond 0: t15
  ·
    have hn : ¬ InR ms k := by unfold InR; simp at hb0; omega
    refine EC.ret ?_
    refine AQ.thenRet ?_
    refine AQ.ret0' Try.results38 ?_
    exact It.done rfl (h0.ext (stJ _) h1) (by rw [cloL, if_neg hn]; rfl)
  ·
    have hk : InR ms k := by unfold InR; simp at hb0; omega
    refine EC.skip ?_
    refine AQ.then ?_
    refine EC.seq ?_
    -- region 1  bind.go:27
    refine EC.region (fun i => [2, 0, 3, 1, 1].getD i 0) [0, 1, 2, 3, 4] rfl ?_
    have n0 := h1.size
    refine ER.st rfl rfl rfl rfl (fun w2 h2 => Stp.makeMap (Value.int .i64) (fun w3 h3 s3 r3 => ⟨h3, ?_⟩))  -- 1.0: t16 := makeMap
    have n1 := h2.size
    refine ER.ex rfl rfl rfl rfl (Exa.load flat3 rfl ((r1.ext ((h1.trans h2).trans h3)).cell rfl)) ?_  -- 1.1: t17 := load
    refine ER.bar rfl rfl rfl rfl (fun w4 h4 => Stp.insert Try.underlying75 (KeyOK.int Try.underlying3) rfl rfl rfl (r3.ext h4) (fun w5 u5 m5 => ?_))  -- 1.2: tNone := insert
    have b5 := (((h1.trans h2).trans h3).trans h4).upd u5 (Nat.le_trans n0 n1)
    have x5_1 := u5.row (r1.ext (((h1.trans h2).trans h3).trans h4)) (by have := r1.lt; omega)
    have x5_2 := u5.row (r2.ext (((h1.trans h2).trans h3).trans h4)) (by have := r2.lt; omega)
    refine ER.sil rfl rfl rfl rfl (Sil.move rfl) ?_  -- 1.3: t18 := move
    refine ER.sil rfl rfl rfl rfl (Sil.assign rfl) ?_  -- 1.4: t4 := assign
    refine ER.nil (fun w6 h6 => ?_)
    refine AQ.then ?_
    refine EC.seq ?_
    -- region 2  bind.go:28
    refine EC.region (fun i => [0, 2, 1].getD i 0) [0, 1, 2] rfl ?_
    refine ER.ex rfl rfl rfl rfl (Exa.load flat3 rfl ((x5_1.ext h6).cell rfl)) ?_  -- 2.0: t19 := load
    have n3 := (m5.ext h6).lt
    have n5 := (b5.trans h6).size
    refine ER.st rfl rfl rfl rfl (fun w7 h7 => Stp.buildAll [_] Try.underlying28 inf3 rfl rfl rfl rfl rfl rfl (fun w8 h8 s8 r8 => ⟨h8, ?_⟩))  -- 2.1: t20 := buildSlice
    have n4 := h7.size
    refine ER.sil rfl rfl rfl rfl (Sil.assign rfl) ?_  -- 2.2: t5 := assign
    refine ER.nil (fun w9 h9 => ?_)
    refine AQ.then ?_
    refine EC.block ?_
    refine EC.loop (σ := CloS) (fun q => [(0, .func (.yield l) #[] #[]), (1, ptr b1), (2, ptr b2), (4, .map (some w2.heap.size)), (5, q.v)]) (fun q wr => It S w (J q.i) q.S wr ∧ QInv w.heap.size w2.heap.size 3 q.S q.m q.v (cloTo ms k q.i) ((cloTo ms k q.i).drop q.i) wr ∧ q.i ≤ (cloTo ms k q.i).length) (fun q => ms.length + 1 - q.i) ⟨0, S, mput [] k (.bool true), .slice (some ⟨w7.heap.size, 0, none⟩) 1 1⟩ [0, 1, 2, 4, 5] rfl ?_ (fun q wr hF => ?_)
    · exact ⟨h0.ext (stJ 0) ((((b5.trans h6).trans h7).trans h8).trans h9), ⟨by omega, fun h => (by have := hSw _ h; omega), (m5.ext (((h6.trans h7).trans h8).trans h9)), Seen.nil.put k, OwnQ.of_own (own_of_row (vs := [.int .i64 k]) (r8.ext h9) (by omega) rfl (by decide)), fun b hb => (by simp [Value.ownBlock] at hb; exact ⟨fun h => (by have := hSw _ h; omega), by omega⟩)⟩, Nat.zero_le _⟩
    obtain ⟨hI, hQ, hi⟩ := hF
    have hE := Ext.refl wr
    have hlen := cloTo_len hk q.i
    refine EC.seq ?_
    refine EC.seq ?_
    -- region 3  bind.go:28
    refine EC.region (fun i => [1, 1, 1].getD i 0) [0, 1, 2] rfl ?_
    refine ER.sil rfl rfl rfl rfl (Sil.move rfl) ?_  -- 3.0: t21 := move
    refine ER.sil rfl rfl rfl rfl (Sil.lenR Try.underlying28 rfl (Reads.isS hQ.own.reads)) ?_  -- 3.1: t22 := call
    refine ER.sil rfl rfl rfl rfl (Sil.gtr rfl rfl) ?_  -- 3.2: t23 := binOp
    refine ER.nil (fun w10 h10 => ?_)
    refine AQ.then ?_
    refine EC.cond rfl (fun hb1 => ?_) (fun hb1 => ?_)  -- cond 1: t23
    ·
      have hlt : q.i < (cloTo ms k q.i).length := by have := of_decide_eq_true hb1; rw [List.length_drop] at this; omega
      have hin : InR ms (cloTo ms k q.i)[q.i] := cloTo_in hk q.i _ (List.getElem_mem hlt)
      obtain ⟨nv, hnv, hns⟩ := Mods.needs hms hin
      have hnm := hns.max
      refine EC.skip ?_
      refine AQ.then ?_
      refine EC.seq ?_
      refine EC.block ?_
      refine EC.seq ?_
      refine EC.seq ?_
      -- region 5  bind.go:29
      refine EC.region (fun i => [1, 1, 1, 0, 3, 1].getD i 0) [0, 1, 2, 3, 4, 5] rfl ?_
      refine ER.sil rfl rfl rfl rfl (Sil.move rfl) ?_  -- 5.0: t26 := move
      refine ER.sil rfl rfl rfl rfl (Sil.move rfl) ?_  -- 5.1: t27 := move
      refine ER.sil rfl rfl rfl rfl (Sil.indexR Try.underlying28 inf3 rfl rfl (Reads.isE hQ.own.reads (by rw [List.length_drop]; omega)) (by omega) (by rw [List.length_drop]; omega)) ?_  -- 5.2: t28 := indexAddr
      refine ER.ex rfl rfl rfl rfl (Exa.load flat3 rfl (q_at (hQ.ext (hE.trans h10)).own hlt)) ?_  -- 5.3: t29 := load
      --  -- 5.4: t30 := call
      obtain ⟨hgl, hge⟩ := cloL_get hk hlt
      refine ER.bar rfl rfl rfl rfl (fun w11 h11 => Stp.yield rfl rfl (Yields.mono ((hI.ext (stJ _) ((hE.trans h10).trans h11)).yields hy (i := q.i) (by rw [List.length_map]; exact hgl) (by rw [List.getElem_map, hge])) ?_))
      rintro _ w12 ⟨S2, k12, n12, c, rfl, hct, hcf⟩
      have hQ2 := (hQ.ext ((hE.trans h10).trans h11)).yield k12 n12
      refine ER.sil rfl rfl rfl rfl (Sil.not rfl) ?_  -- 5.5: t31 := unOp
      refine ER.nil (fun w13 h13 => ?_)
      refine AQ.then ?_
      refine EC.cond rfl (fun hb2 => ?_) (fun hb2 => ?_)  -- cond 2: t31
      ·
        refine EC.ret ?_
        refine AQ.thenRet ?_
        refine AQ.blockRet ?_
        refine AQ.thenRet ?_
        refine AQ.thenRet ?_
        refine AQ.blockRet ?_
        refine AQ.ret0' Try.results38 ?_
        exact It.stop rfl ((hcf (by simpa using hb2)).ext stX h13)
      ·
        have hI2 := hct (by simpa using hb2)
        have q2b := hI2.md.row r2 (hS _ (.inr (.inr rfl)))
        have hw2 := hI2.base hx (fun b hb => hS b (.inl hb))
        refine EC.skip ?_
        refine AQ.then ?_
        refine EC.seq ?_
        -- region 6  bind.go:32
        refine EC.draw (fun i => [0, 1, 1, 0, 1, 1, 0, 1, 1].getD i 0) [0, 1, 2, 3, 4, 5, 6, 7, 8] (by kernel_rfl) (by kernel_rfl) ?_
        refine ER.ex rfl rfl rfl rfl (Exa.load flat22 rfl ((q2b.ext h13).cell rfl)) ?_  -- 6.0: t32 := load
        refine ER.sil rfl rfl rfl rfl (Sil.move rfl) ?_  -- 6.1: t33 := move
        refine ER.sil rfl rfl rfl rfl (Sil.indexR Try.underlying28 inf3 rfl rfl (Reads.isE hQ.own.reads (by rw [List.length_drop]; omega)) (by omega) (by rw [List.length_drop]; omega)) ?_  -- 6.2: t34 := indexAddr
        refine ER.ex rfl rfl rfl rfl (Exa.load flat3 rfl (q_at (hQ2.ext h13).own hlt)) ?_  -- 6.3: t35 := load
        refine ER.sil rfl rfl rfl rfl (Sil.indexR Try.underlying22 inf56 rfl rfl (Mods.isE hms (by have := hin.1; have := hin.2; omega)) (hin.1) (hin.2)) ?_  -- 6.4: t36 := indexAddr
        refine ER.sil rfl rfl rfl rfl (Sil.fieldAddr Try.underlying56 rfl inf28 rfl) ?_  -- 6.5: t37 := fieldAddr
        refine ER.ex rfl rfl rfl rfl (Exa.load flat28 rfl (cell_ext (hw2.trans h13) hnv)) ?_  -- 6.6: t38 := load
        refine ER.sil rfl rfl rfl rfl (Sil.lenR Try.underlying28 rfl (Ints.isS hns)) ?_  -- 6.7: t39 := call
        refine ER.sil rfl rfl rfl rfl (Sil.move rfl) ?_  -- 6.8: t40 := move
        refine ER.nil (fun w14 h14 => ?_)
        refine AQ.then ?_
        refine EC.block ?_
        refine EC.loop (σ := CloR) (fun r => [(0, .func (.yield l) #[] #[]), (1, ptr b1), (2, ptr b2), (4, .map (some w2.heap.size)), (5, r.v), (38, nv), (39, .int .i64 ((moAt ms (cloTo ms k q.i)[q.i]).needs.length : Int)), (40, .int .i64 (r.j : Int))]) (fun r wr => It S w (J (q.i + 1)) S2 wr ∧ QInv w.heap.size w2.heap.size 3 S2 r.m r.v (addN ms.length (cloTo ms k q.i) ((moAt ms (cloTo ms k q.i)[q.i]).needs.take r.j)) ((addN ms.length (cloTo ms k q.i) ((moAt ms (cloTo ms k q.i)[q.i]).needs.take r.j)).drop q.i) wr ∧ r.j ≤ (moAt ms (cloTo ms k q.i)[q.i]).needs.length) (fun r => (moAt ms (cloTo ms k q.i)[q.i]).needs.length - r.j) ⟨0, q.m, q.v⟩ [0, 1, 2, 4, 5, 38, 39, 40] rfl ?_ (fun r wr hF => ?_)
        · exact ⟨hI2.ext (stJ _) (h13.trans h14), hQ2.ext (h13.trans h14), Nat.zero_le _⟩
        obtain ⟨hJ, hR, hj⟩ := hF
        have hE := Ext.refl wr
        have hwr := hJ.base hx (fun b hb => hS b (.inl hb))
        have q2c := hJ.md.row r2 (hS _ (.inr (.inr rfl)))
        have hlen2 := addN_len hk q.i ((moAt ms (cloTo ms k q.i)[q.i]).needs.take r.j)
        have hpre := (addN_pre ms.length ((moAt ms (cloTo ms k q.i)[q.i]).needs.take r.j) (cloTo ms k q.i)).length_le
        refine EC.seq ?_
        -- region 7  bind.go:32
        refine EC.region (fun i => [1].getD i 0) [0] rfl ?_
        refine ER.sil rfl rfl rfl rfl (Sil.lss rfl rfl) ?_  -- 7.0: t41 := binOp
        refine ER.nil (fun w15 h15 => ?_)
        refine AQ.then ?_
        refine EC.seq ?_
        refine EC.cond rfl (fun hb3 => ?_) (fun hb3 => ?_)  -- cond 3: t41
        ·
          have hltj : r.j < (moAt ms (cloTo ms k q.i)[q.i]).needs.length := by have := of_decide_eq_true hb3; omega
          refine EC.skip ?_
          refine AQ.then ?_
          refine EC.seq ?_
          refine EC.block ?_
          refine EC.seq ?_
          -- region 8  bind.go:32
          refine EC.region (fun i => [1, 0, 1].getD i 0) [0, 1, 2] rfl ?_
          refine ER.sil rfl rfl rfl rfl (Sil.indexR Try.underlying28 inf3 rfl rfl (Ints.isE hns (by omega)) (by omega) (by omega)) ?_  -- 8.0: t42 := indexAddr
          refine ER.ex rfl rfl rfl rfl (Exa.load flat3 rfl (Ints.cell (hns.ext (hwr.trans (hE.trans h15))) hltj)) ?_  -- 8.1: t43 := load
          refine ER.sil rfl rfl rfl rfl (Sil.assign rfl) ?_  -- 8.2: t7 := assign
          refine ER.nil (fun w16 h16 => ?_)
          refine AQ.then ?_
          refine EC.seq ?_
          -- region 9  bind.go:33
          refine EC.region (fun i => [1, 1, 1, 1, 0, 1, 1, 1, 1, 1, 1, 0, 1, 1].getD i 0) [0, 1, 2, 3, 4, 5, 6, 7, 8, 9, 10, 11, 12, 13] rfl ?_
          refine ER.sil rfl rfl rfl rfl (Sil.move rfl) ?_  -- 9.0: t44 := move
          refine ER.sil rfl rfl rfl rfl (Sil.geq rfl rfl) ?_  -- 9.1: t45 := binOp
          refine ER.sil rfl rfl rfl rfl (Sil.move rfl) ?_  -- 9.2: t46 := move
          refine ER.silG rfl rfl rfl rfl rfl rfl (fun hc => Sil.move rfl) ?_  -- 9.3: t47 := move
          refine ER.exG rfl rfl rfl rfl rfl rfl (fun hc => Exa.load flat22 rfl ((q2c.ext ((hE.trans h15).trans h16)).cell rfl)) ?_  -- 9.4: t48 := load
          refine ER.silG rfl rfl rfl rfl rfl rfl (fun hc => Sil.lenR Try.underlying22 (congrArg some (sel_eq hc _)) (Mods.isS hms)) ?_  -- 9.5: t49 := call
          refine ER.silG rfl rfl rfl rfl rfl rfl (fun hc => Sil.lss (congrArg some (sel_eq hc _)) (congrArg some (sel_eq hc _))) ?_  -- 9.6: t50 := binOp
          refine ER.sil rfl rfl rfl rfl (Sil.pickAnd rfl rfl rfl) ?_  -- 9.7: t51 := pick
          refine ER.sil rfl rfl rfl rfl (Sil.move rfl) ?_  -- 9.8: t52 := move
          refine ER.silG rfl rfl rfl rfl rfl rfl (fun hc => Sil.move rfl) ?_  -- 9.9: t53 := move
          refine ER.silG rfl rfl rfl rfl rfl rfl (fun hc => Sil.move rfl) ?_  -- 9.10: t54 := move
          refine ER.exG rfl rfl rfl rfl rfl rfl (fun hc => Exa.lookup Try.underlying75 (KeyOK.int Try.underlying3) inf4 (congrArg some (sel_eq hc _)) (congrArg some (sel_eq hc _)) ((hR.ext ((hE.trans h15).trans h16)).hm)) ?_  -- 9.11: t55 := lookup
          rw [hR.sn.get _]
          refine ER.silG rfl rfl rfl rfl rfl rfl (fun hc => Sil.not (congrArg some (sel_eq hc _))) ?_  -- 9.12: t56 := unOp
          refine ER.sil rfl rfl rfl rfl (Sil.pickAnd rfl rfl rfl) ?_  -- 9.13: t57 := pick
          refine ER.nil (fun w17 h17 => ?_)
          refine AQ.then ?_
          refine EC.cond rfl (fun hb4 => ?_) (fun hb4 => ?_)  -- cond 4: t57
          ·
            have hadd : addN1 ms.length (addN ms.length (cloTo ms k q.i) ((moAt ms (cloTo ms k q.i)[q.i]).needs.take r.j)) (moAt ms (cloTo ms k q.i)[q.i]).needs[r.j] = (addN ms.length (cloTo ms k q.i) ((moAt ms (cloTo ms k q.i)[q.i]).needs.take r.j)) ++ [(moAt ms (cloTo ms k q.i)[q.i]).needs[r.j]] := by unfold addN1; rw [if_pos (by simpa using hb4)]
            refine EC.seq ?_
            -- region 10  bind.go:34
            refine EC.region (fun i => [1, 1, 3].getD i 0) [0, 1, 2] rfl ?_
            refine ER.sil rfl rfl rfl rfl (Sil.move rfl) ?_  -- 10.0: t58 := move
            refine ER.sil rfl rfl rfl rfl (Sil.move rfl) ?_  -- 10.1: t59 := move
            --  -- 10.2: tNone := mapUpdate
            refine ER.bar rfl rfl rfl rfl (fun w18 h18 => Stp.mapUpdate Try.underlying75 (KeyOK.int Try.underlying3) rfl rfl rfl (hR.ext ((((hE.trans h15).trans h16).trans h17).trans h18)).hm (fun w19 u19 m19 => ?_))
            have hR2 := (hR.ext ((((hE.trans h15).trans h16).trans h17).trans h18)).put u19 m19
            have hJ2 := (hJ.ext (stJ _) ((((hE.trans h15).trans h16).trans h17).trans h18)).step (stJ _) ((hR.ext ((((hE.trans h15).trans h16).trans h17).trans h18)).modPut u19)
            refine ER.nil (fun w20 h20 => ?_)
            refine AQ.then ?_
            -- region 11  bind.go:35
            refine EC.region (fun i => [1, 1, 2, 3, 1].getD i 0) [0, 1, 2, 3, 4] rfl ?_
            refine ER.sil rfl rfl rfl rfl (Sil.move rfl) ?_  -- 11.0: t60 := move
            refine ER.sil rfl rfl rfl rfl (Sil.move rfl) ?_  -- 11.1: t61 := move
            refine ER.st rfl rfl rfl rfl (fun w21 h21 => Stp.buildAll [_] Try.underlying28 inf3 rfl rfl rfl rfl rfl rfl (fun w22 h22 s22 r22 => ⟨h22, ?_⟩))  -- 11.2: t62 := buildSlice
            --  -- 11.3: t63 := call
            refine ER.bar rfl rfl rfl rfl (fun w23 h23 => ?_)
            have hR3 := hR2.ext (((h20.trans h21).trans h22).trans h23)
            have hJ3 := hJ2.ext (stJ _) (((h20.trans h21).trans h22).trans h23)
            refine Stp.appendQ Try.underlying28 inf3 rfl rfl rfl hR3.own hJ3.md.size (Reads.of_row (r22.ext h23) rfl (by decide)) (ints_one [_]) (by rw [List.length_drop]; omega) (by rw [List.length_drop]; unfold maxLen; omega) (fun vq w24 o24 g24 n24 => ?_)
            have hR4 := hR3.app (bJ _ _ _ hJ3.hj) o24 g24 n24
            have hJ4 := hJ3.step (stJ _) (hR3.modApp g24)
            refine ER.sil rfl rfl rfl rfl (Sil.assign rfl) ?_  -- 11.4: t5 := assign
            refine ER.nil (fun w25 h25 => ?_)
            refine AQ.blockNormal ?_
            refine AQ.then ?_
            -- region 12  bind.go:32
            refine EC.region (fun i => [1, 1].getD i 0) [0, 1] rfl ?_
            refine ER.sil rfl rfl rfl rfl (Sil.add rfl rfl) ?_  -- 12.0: t64 := binOp
            refine ER.sil rfl rfl rfl rfl (Sil.move rfl) ?_  -- 12.1: t40 := move
            refine ER.nil (fun w26 h26 => ?_)
            refine AQ.round ⟨r.j + 1, mput r.m (moAt ms (cloTo ms k q.i)[q.i]).needs[r.j] (.bool true), vq⟩ [0, 1, 2, 4, 5, 38, 39, 40] (by rw [← wrap_succ hltj hnm]; rfl) ⟨hJ4.ext (stJ _) (h25.trans h26), ?_, hltj⟩ (by simp only; omega)
            simp only [addN_take _ _ _ hltj, hadd]
            rw [List.drop_append_of_le_length (by omega)]
            exact hR4.ext (h25.trans h26)
          ·
            have hadd : addN1 ms.length (addN ms.length (cloTo ms k q.i) ((moAt ms (cloTo ms k q.i)[q.i]).needs.take r.j)) (moAt ms (cloTo ms k q.i)[q.i]).needs[r.j] = (addN ms.length (cloTo ms k q.i) ((moAt ms (cloTo ms k q.i)[q.i]).needs.take r.j)) := by unfold addN1; rw [if_neg (by simpa using hb4)]
            refine EC.skip ?_
            refine AQ.blockNormal ?_
            refine AQ.then ?_
            -- region 12  bind.go:32
            refine EC.region (fun i => [1, 1].getD i 0) [0, 1] rfl ?_
            refine ER.sil rfl rfl rfl rfl (Sil.add rfl rfl) ?_  -- 12.0: t64 := binOp
            refine ER.sil rfl rfl rfl rfl (Sil.move rfl) ?_  -- 12.1: t40 := move
            refine ER.nil (fun w27 h27 => ?_)
            refine AQ.round ⟨r.j + 1, r.m, r.v⟩ [0, 1, 2, 4, 5, 38, 39, 40] (by rw [← wrap_succ hltj hnm]; rfl) ⟨hJ.ext (stJ _) ((((hE.trans h15).trans h16).trans h17).trans h27), ?_, hltj⟩ (by simp only; omega)
            simp only [addN_take _ _ _ hltj, hadd]
            exact hR.ext ((((hE.trans h15).trans h16).trans h17).trans h27)
        ·
          refine EC.exit ?_
          refine AQ.thenExit ?_
          refine AQ.thenExit ?_
          refine AQ.blockHit ?_
          refine AQ.blockNormal ?_
          refine AQ.then ?_
          -- region 4  bind.go:28
          refine EC.region (fun i => [1, 1, 1].getD i 0) [0, 1, 2] rfl ?_
          refine ER.sil rfl rfl rfl rfl (Sil.move rfl) ?_  -- 4.0: t24 := move
          refine ER.sil rfl rfl rfl rfl (Sil.sliceLR Try.underlying28 inf3 rfl rfl (Reads.isS hR.own.reads) (by omega) (by rw [List.length_drop]; omega)) ?_  -- 4.1: t25 := slice
          refine ER.sil rfl rfl rfl rfl (Sil.assign rfl) ?_  -- 4.2: t5 := assign
          refine ER.nil (fun w28 h28 => ?_)
          have hge : r.j = (moAt ms (cloTo ms k q.i)[q.i]).needs.length := by have := of_decide_eq_false hb3; omega
          have hst : (addN ms.length (cloTo ms k q.i) ((moAt ms (cloTo ms k q.i)[q.i]).needs.take r.j)) = cloTo ms k (q.i + 1) := by rw [cloTo_next hlt, hge, List.take_length]
          rw [hst] at hR hpre
          rw [List.drop_eq_getElem_cons (show q.i < (cloTo ms k (q.i + 1)).length by omega)] at hR
          exact AQ.round ⟨q.i + 1, S2, r.m, dropV 1 r.v 1⟩ [0, 1, 2, 4, 5] rfl ⟨hJ.ext (stJ _) ((hE.trans h15).trans h28), hR.pop.ext ((hE.trans h15).trans h28), by simp only; omega⟩ (by simp only; omega)
    ·
      refine EC.exit ?_
      refine AQ.thenExit ?_
      refine AQ.thenExit ?_
      refine AQ.blockHit ?_
      refine AQ.ret0 Try.results38 ?_
      have hge : (cloTo ms k q.i).length ≤ q.i := by have := of_decide_eq_false hb1; rw [List.length_drop] at this; omega
      exact It.done rfl (hI.ext (stJ _) (hE.trans h10)) (by rw [List.length_map, cloL_of hk hge hi]; omega)

theorem closure_seq (ms : List Mo) (v : Value) (k : Int) (w00 : World) (b1 b2 : Nat) (w : World) (hx : Ext w00 w) (hms : Mods w00 v ms) (r1 : Row w b1 3 [.int .i64 k]) (r2 : Row w b2 22 [v]) (hm8 : ms.length ≤ 1000) : SeqC Try.prog 38 [ptr b1, ptr b2] (fun b => (b < w00.heap.size ∨ b = b1 ∨ b = b2)) ((cloL ms k).map fun x => [Value.int .i64 x]) w :=
  SeqC.of fun l J X stJ stX bJ hy S hS hSw h0 => closure_walk ms v k w00 b1 b2 w hx hms r1 r2 hm8 l J X stJ stX bJ hy S hS hSw h0

end Go.Proofs.Ytgagjmapjdeknaa
