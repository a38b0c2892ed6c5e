/- Bind: the reference's Scope. -/
import Derived.Test.YtgagjmapjdeknaaW14
namespace Go.Proofs.Ytgagjmapjdeknaa
open Go.RowKit Go.XK Go.BindLaw

-- linchpin/linchpinref31.Scope: parameters ['[]api.Module', 'int'] (free 0), results [('ResultVar.tmp', 4)], 108 slots
set_option maxRecDepth 100000 in
theorem scopR_any (ms : List Mo) (v : Value) (m : Int) (w : World) (hms : Mods w v ms) (hm8 : ms.length ≤ 1000) :
    Calls Try.prog 14 [v, .int .i64 m].toArray w fun e w' => ∃ v', e = .returned v' ∧ Ext w w' ∧ Ints w' v' (scopeL ms m) := by
  have hm := hms.max
  refine calls_of Try.func14 rfl Try.ntmps14 rfl ?_
  refine EC.seq ?_
  -- region 0  ref.go:37
  refine EC.region (fun i => [1].getD i 0) [0] rfl ?_
  refine ER.sil rfl rfl rfl rfl (Sil.assign rfl) ?_  -- 0.0: t4 := assign
  refine ER.nil (fun w1 h1 => ?_)
  refine AQ.then ?_
  refine EC.seq ?_
  refine EC.seq ?_
  -- region 1  ref.go:38
  refine EC.region (fun i => [1, 1, 1, 1, 1, 1, 1, 1].getD i 0) [0, 1, 2, 3, 4, 5, 6, 7] rfl ?_
  refine ER.sil rfl rfl rfl rfl (Sil.move rfl) ?_  -- 1.0: t11 := move
  refine ER.sil rfl rfl rfl rfl (Sil.lss rfl rfl) ?_  -- 1.1: t12 := binOp
  refine ER.sil rfl rfl rfl rfl (Sil.move rfl) ?_  -- 1.2: t13 := move
  refine ER.silG rfl rfl rfl rfl rfl rfl (fun hc => Sil.move rfl) ?_  -- 1.3: t14 := move
  refine ER.silG rfl rfl rfl rfl rfl rfl (fun hc => Sil.move rfl) ?_  -- 1.4: t15 := move
  refine ER.silG rfl rfl rfl rfl rfl rfl (fun hc => Sil.lenR Try.underlying22 (congrArg some (sel_eq hc _)) (Mods.isS hms)) ?_  -- 1.5: t16 := call
  refine ER.silG rfl rfl rfl rfl rfl rfl (fun hc => Sil.geq (congrArg some (sel_eq hc _)) (congrArg some (sel_eq hc _))) ?_  -- 1.6: t17 := binOp
  refine ER.sil rfl rfl rfl rfl (Sil.pickOr rfl rfl rfl) ?_  -- 1.7: t18 := pick
  refine ER.nil (fun w2 h2 => ?_)
  refine AQ.then ?_
  refine EC.cond rfl (fun hb0 => ?_) (fun hb0 => ?_)  -- cond 0: t18
  ·
    have hn : ¬ InR ms m := by unfold InR; simp at hb0; omega
    refine EC.seq ?_
    -- region 2  ref.go:39
    refine EC.region (fun i => [1].getD i 0) [0] rfl ?_
    refine ER.sil rfl rfl rfl rfl (Sil.assign rfl) ?_  -- 2.0: t4 := assign
    refine ER.nil (fun w3 h3 => ?_)
    refine AQ.then ?_
    refine EC.ret ?_
    refine AQ.thenRet ?_
    refine AQ.ret1 Try.results14 rfl ?_
    exact ⟨_, rfl, ((h1.trans h2).trans h3), by rw [scopeL, if_neg hn]; exact Ints.nil _⟩
  ·
    have hk : InR ms m := by unfold InR; simp at hb0; omega
    obtain ⟨cs, hcl, hcat, hco⟩ := hms.elem hk
    refine EC.skip ?_
    refine AQ.then ?_
    refine EC.seq ?_
    -- region 3  ref.go:41
    refine EC.region (fun i => [1, 1, 1, 0, 2, 3].getD i 0) [0, 1, 2, 3, 4, 5] rfl ?_
    refine ER.sil rfl rfl rfl rfl (Sil.move rfl) ?_  -- 3.0: t19 := move
    refine ER.sil rfl rfl rfl rfl (Sil.move rfl) ?_  -- 3.1: t20 := move
    refine ER.sil rfl rfl rfl rfl (Sil.indexR Try.underlying22 inf56 rfl rfl (Mods.isE hms (by have := hk.1; have := hk.2; omega)) (hk.1) (hk.2)) ?_  -- 3.2: t21 := indexAddr
    refine ER.ex rfl rfl rfl rfl (Exa.loadAgg (vs := cs) (by rw [hcl]; exact agg56) rfl (hcat.ext (h1.trans h2))) ?_  -- 3.3: t22 := load
    have n0 := (h1.trans h2).size
    refine ER.st rfl rfl rfl rfl (fun w4 h4 => Stp.alloc inf56 (fun w5 h5 s5 r5 => ⟨h5, ?_⟩))  -- 3.4: t5 := alloc
    have n1 := h4.size
    refine ER.bar rfl rfl rfl rfl (fun w6 h6 => Stp.store (mo_sz hcl) rfl rfl (r5.ext h6) (ag_len (by rw [hcl]; rfl)) (mo_one hco.one) (fun w7 u7 r7 => ?_))  -- 3.5: tNone := store
    have e7 := ((h4.trans h5).trans h6).upd u7 h4.size
    refine ER.nil (fun w8 h8 => ?_)
    refine AQ.then ?_
    refine EC.seq ?_
    -- region 4  ref.go:42
    refine EC.region (fun i => [1].getD i 0) [0] rfl ?_
    refine ER.sil rfl rfl rfl rfl (Sil.assign rfl) ?_  -- 4.0: t6 := assign
    refine ER.nil (fun w9 h9 => ?_)
    refine AQ.then ?_
    refine EC.seq ?_
    refine EC.seq ?_
    -- region 5  ref.go:43
    refine EC.region (fun i => [1].getD i 0) [0] rfl ?_
    refine ER.sil rfl rfl rfl rfl (Sil.assign rfl) ?_  -- 5.0: t7 := assign
    refine ER.nil (fun w10 h10 => ?_)
    refine AQ.then ?_
    refine EC.block ?_
    refine EC.loop (σ := CloV) (fun q => [(0, v), (5, ptr w4.heap.size), (6, q.v), (7, .int .i64 (q.i : Int))]) (fun q wr => Ext w wr ∧ Row wr w4.heap.size 56 cs ∧ q.i ≤ ms.length ∧ (q.i = 0 ∨ (moAt ms m).space = 0) ∧ OwnQ wr (w4.heap.size + 1) 3 1 q.v (mainTo ms q.i).length ((mainTo ms q.i).map (Value.int .i64))) (fun q => ms.length - q.i) ⟨0, .slice none 0 0⟩ [0, 5, 6, 7] rfl ?_ (fun q wr hF => ?_)
    · exact ⟨(((((h1.trans h2).trans e7).trans h8).trans h9).trans h10), (r7.ext ((h8.trans h9).trans h10)), Nat.zero_le _, .inl rfl, OwnQ.of_own (World.ownsRow_nil _ _ _ _)⟩
    obtain ⟨hE, q5, hi, hz, ho⟩ := hF
    have hlen := mainTo_len ms q.i
    refine EC.seq ?_
    refine EC.seq ?_
    -- region 6  ref.go:43
    refine EC.region (fun i => [1, 1, 1, 1, 1, 1, 0, 1, 1].getD i 0) [0, 1, 2, 3, 4, 5, 6, 7, 8] rfl ?_
    refine ER.sil rfl rfl rfl rfl (Sil.move rfl) ?_  -- 6.0: t23 := move
    refine ER.sil rfl rfl rfl rfl (Sil.move rfl) ?_  -- 6.1: t24 := move
    refine ER.sil rfl rfl rfl rfl (Sil.lenR Try.underlying22 rfl (Mods.isS hms)) ?_  -- 6.2: t25 := call
    refine ER.sil rfl rfl rfl rfl (Sil.lss rfl rfl) ?_  -- 6.3: t26 := binOp
    refine ER.sil rfl rfl rfl rfl (Sil.move rfl) ?_  -- 6.4: t27 := move
    refine ER.silG rfl rfl rfl rfl rfl rfl (fun hc => Sil.fieldAddr Try.underlying56 rfl inf3 rfl) ?_  -- 6.5: t28 := fieldAddr
    refine ER.exG rfl rfl rfl rfl rfl rfl (fun hc => Exa.load flat3 (congrArg some (sel_eq hc _)) ((q5).cell hco.spaceC)) ?_  -- 6.6: t29 := load
    refine ER.silG rfl rfl rfl rfl rfl rfl (fun hc => Sil.eql (congrArg some (sel_eq hc _)) rfl) ?_  -- 6.7: t30 := binOp
    refine ER.sil rfl rfl rfl rfl (Sil.pickAnd rfl rfl rfl) ?_  -- 6.8: t31 := pick
    refine ER.nil (fun w11 h11 => ?_)
    refine AQ.then ?_
    refine EC.cond rfl (fun hb1 => ?_) (fun hb1 => ?_)  -- cond 1: t31
    ·
      have hlt : q.i < ms.length := by simp at hb1; omega
      have hsp : (moAt ms m).space = 0 := by simp at hb1; exact hb1.2
      refine EC.skip ?_
      refine AQ.then ?_
      refine EC.seq ?_
      refine EC.block ?_
      refine EC.seq ?_
      -- region 8  ref.go:44
      refine EC.region (fun i => [1, 1, 1, 1, 0, 1, 1, 1, 1, 1, 1, 0, 1, 1].getD i 0) [0, 1, 2, 3, 4, 5, 6, 7, 8, 9, 10, 11, 12, 13] rfl ?_
      refine ER.sil rfl rfl rfl rfl (Sil.move rfl) ?_  -- 8.0: t34 := move
      refine ER.sil rfl rfl rfl rfl (Sil.move rfl) ?_  -- 8.1: t35 := move
      refine ER.sil rfl rfl rfl rfl (Sil.indexR Try.underlying22 inf56 rfl rfl (Mods.isE hms (by omega)) (by omega) (by omega)) ?_  -- 8.2: t36 := indexAddr
      refine ER.sil rfl rfl rfl rfl (Sil.fieldAddr Try.underlying56 rfl inf3 rfl) ?_  -- 8.3: t37 := fieldAddr
      refine ER.ex rfl rfl rfl rfl (Exa.load flat3 rfl (Mods.space (hms.ext (hE.trans h11)) (hms.inR hlt))) ?_  -- 8.4: t38 := load
      refine ER.sil rfl rfl rfl rfl (Sil.eql rfl rfl) ?_  -- 8.5: t39 := binOp
      refine ER.sil rfl rfl rfl rfl (Sil.move rfl) ?_  -- 8.6: t40 := move
      refine ER.silG rfl rfl rfl rfl rfl rfl (fun hc => Sil.move rfl) ?_  -- 8.7: t41 := move
      refine ER.silG rfl rfl rfl rfl rfl rfl (fun hc => Sil.move rfl) ?_  -- 8.8: t42 := move
      refine ER.silG rfl rfl rfl rfl rfl rfl (fun hc => Sil.indexR Try.underlying22 inf56 (congrArg some (sel_eq hc _)) (congrArg some (sel_eq hc _)) (Mods.isE hms (by omega)) (by omega) (by omega)) ?_  -- 8.9: t43 := indexAddr
      refine ER.silG rfl rfl rfl rfl rfl rfl (fun hc => Sil.fieldAddr Try.underlying56 rfl inf3 (congrArg some (sel_eq hc _))) ?_  -- 8.10: t44 := fieldAddr
      refine ER.exG rfl rfl rfl rfl rfl rfl (fun hc => Exa.load flat3 (congrArg some (sel_eq hc _)) (Mods.root (hms.ext (hE.trans h11)) (hms.inR hlt))) ?_  -- 8.11: t45 := load
      refine ER.silG rfl rfl rfl rfl rfl rfl (fun hc => Sil.eql (congrArg some (sel_eq hc _)) rfl) ?_  -- 8.12: t46 := binOp
      refine ER.sil rfl rfl rfl rfl (Sil.pickAnd rfl rfl rfl) ?_  -- 8.13: t47 := pick
      refine ER.nil (fun w12 h12 => ?_)
      refine AQ.then ?_
      refine EC.cond rfl (fun hb2 => ?_) (fun hb2 => ?_)  -- cond 2: t47
      ·
        have hst : mainTo ms (q.i + 1) = (mainTo ms q.i) ++ [(q.i : Int)] := by rw [mainTo, if_pos (show isMain _ = true from hb2)]
        -- region 9  ref.go:45
        refine EC.region (fun i => [1, 1, 2, 3, 1].getD i 0) [0, 1, 2, 3, 4] rfl ?_
        refine ER.sil rfl rfl rfl rfl (Sil.move rfl) ?_  -- 9.0: t48 := move
        refine ER.sil rfl rfl rfl rfl (Sil.move rfl) ?_  -- 9.1: t49 := move
        refine ER.st rfl rfl rfl rfl (fun w13 h13 => Stp.buildAll [_] Try.underlying28 inf3 rfl rfl rfl rfl rfl rfl (fun w14 h14 s14 r14 => ⟨h14, ?_⟩))  -- 9.2: t50 := buildSlice
        --  -- 9.3: t51 := call
        refine ER.bar rfl rfl rfl rfl (fun w15 h15 => ?_)
        have hoa := (ho.ext (((h11.trans h12).trans h13).trans h14)).ext h15
        have g5a := (q5.ext (((h11.trans h12).trans h13).trans h14)).ext h15
        refine Stp.appendQ Try.underlying28 inf3 rfl rfl rfl hoa (by have := (q5.ext (((h11.trans h12).trans h13).trans h14)).lt; have := h15.size; omega) (Reads.of_row (r14.ext h15) rfl (by decide)) (ints_one [_]) (by omega) (by unfold maxLen; omega) (fun vq w16 ob g16 nb => ?_)
        have eb := (((((hE.trans h11).trans h12).trans h13).trans h14).trans h15).grown g16 (fun k hk => by have := (hoa.lt k hk).1; omega)
        have g5 := g5a.grown g16 (fun e => by have := (hoa.lt _ e.symm).1; have := (q5.ext (((h11.trans h12).trans h13).trans h14)).lt; omega)
        refine ER.sil rfl rfl rfl rfl (Sil.assign rfl) ?_  -- 9.4: t6 := assign
        refine ER.nil (fun w17 h17 => ?_)
        refine AQ.blockNormal ?_
        refine AQ.then ?_
        -- region 7  ref.go:43
        refine EC.region (fun i => [1, 1, 1].getD i 0) [0, 1, 2] rfl ?_
        refine ER.sil rfl rfl rfl rfl (Sil.move rfl) ?_  -- 7.0: t32 := move
        refine ER.sil rfl rfl rfl rfl (Sil.add rfl rfl) ?_  -- 7.1: t33 := binOp
        refine ER.sil rfl rfl rfl rfl (Sil.assign rfl) ?_  -- 7.2: t7 := assign
        refine ER.nil (fun w18 h18 => ?_)
        refine AQ.round ⟨q.i + 1, vq⟩ [0, 5, 6, 7] (by rw [← wrap_succ hlt hm]; rfl) ⟨((eb.trans h17).trans h18), (g5.ext (h17.trans h18)), hlt, .inr hsp, ?_⟩ (by simp only; omega)
        simp only [hst, List.length_append, List.map_append]
        exact (ob.ext (h17.trans h18))
      ·
        have hst : mainTo ms (q.i + 1) = (mainTo ms q.i) := by rw [mainTo, if_neg (by rw [show isMain (moAt ms q.i) = false from hb2]; exact Bool.false_ne_true)]
        refine EC.skip ?_
        refine AQ.blockNormal ?_
        refine AQ.then ?_
        -- region 7  ref.go:43
        refine EC.region (fun i => [1, 1, 1].getD i 0) [0, 1, 2] rfl ?_
        refine ER.sil rfl rfl rfl rfl (Sil.move rfl) ?_  -- 7.0: t32 := move
        refine ER.sil rfl rfl rfl rfl (Sil.add rfl rfl) ?_  -- 7.1: t33 := binOp
        refine ER.sil rfl rfl rfl rfl (Sil.assign rfl) ?_  -- 7.2: t7 := assign
        refine ER.nil (fun w19 h19 => ?_)
        refine AQ.round ⟨q.i + 1, q.v⟩ [0, 5, 6, 7] (by rw [← wrap_succ hlt hm]; rfl) ⟨(((hE.trans h11).trans h12).trans h19), (q5.ext ((h11.trans h12).trans h19)), hlt, .inr hsp, ?_⟩ (by simp only; omega)
        simp only [hst]
        exact (ho.ext ((h11.trans h12).trans h19))
    ·
      refine EC.exit ?_
      refine AQ.thenExit ?_
      refine AQ.thenExit ?_
      refine AQ.blockHit ?_
      refine AQ.then ?_
      refine EC.join (σ := CloV) (fun q => [(0, v), (5, ptr w4.heap.size), (6, q.v)]) (fun q wj => Ext w wj ∧ Row wj w4.heap.size 56 cs ∧ Ints wj q.v (candL ms (moAt ms m))) ?_ (fun q wj hF => ?_)
      ·
        refine EC.seq ?_
        -- region 10  ref.go:48
        have hc1 : cand1 ms (moAt ms m) = (mainTo ms q.i) := by
          unfold cand1
          split
          · rename_i h0
            have : q.i = ms.length := by simp [h0] at hb1; omega
            rw [mainL, this]
          · rename_i h0
            rcases hz with hz | hz
            · rw [hz]; rfl
            · exact absurd hz h0
        have hcl3 := cloL_len ms (moAt ms m).root
        refine EC.region (fun i => [1, 0, 1, 1, 1, 0, 1, 1].getD i 0) [0, 1, 2, 3, 4, 5, 6, 7] rfl ?_
        refine ER.sil rfl rfl rfl rfl (Sil.fieldAddr Try.underlying56 rfl inf3 rfl) ?_  -- 10.0: t52 := fieldAddr
        refine ER.ex rfl rfl rfl rfl (Exa.load flat3 rfl (((q5.ext h11)).cell hco.spaceC)) ?_  -- 10.1: t53 := load
        refine ER.sil rfl rfl rfl rfl (Sil.neq rfl rfl) ?_  -- 10.2: t54 := binOp
        refine ER.sil rfl rfl rfl rfl (Sil.move rfl) ?_  -- 10.3: t55 := move
        refine ER.silG rfl rfl rfl rfl rfl rfl (fun hc => Sil.fieldAddr Try.underlying56 rfl inf3 rfl) ?_  -- 10.4: t56 := fieldAddr
        refine ER.exG rfl rfl rfl rfl rfl rfl (fun hc => Exa.load flat3 (congrArg some (sel_eq hc _)) (((q5.ext h11)).cell hco.rootC)) ?_  -- 10.5: t57 := load
        refine ER.silG rfl rfl rfl rfl rfl rfl (fun hc => Sil.neq (congrArg some (sel_eq hc _)) rfl) ?_  -- 10.6: t58 := binOp
        refine ER.sil rfl rfl rfl rfl (Sil.pickOr rfl rfl rfl) ?_  -- 10.7: t59 := pick
        refine ER.nil (fun w20 h20 => ?_)
        refine AQ.then ?_
        refine EC.cond rfl (fun hb3 => ?_) (fun hb3 => ?_)  -- cond 3: t59
        ·
          -- region 11  ref.go:49
          refine EC.region (fun i => [1, 1, 1, 0, 2, 3, 1].getD i 0) [0, 1, 2, 3, 4, 5, 6] rfl ?_
          refine ER.sil rfl rfl rfl rfl (Sil.move rfl) ?_  -- 11.0: t60 := move
          refine ER.sil rfl rfl rfl rfl (Sil.move rfl) ?_  -- 11.1: t61 := move
          refine ER.sil rfl rfl rfl rfl (Sil.fieldAddr Try.underlying56 rfl inf3 rfl) ?_  -- 11.2: t62 := fieldAddr
          refine ER.ex rfl rfl rfl rfl (Exa.load flat3 rfl (((q5.ext (h11.trans h20))).cell hco.rootC)) ?_  -- 11.3: t63 := load
          refine ER.st rfl rfl rfl rfl (fun w21 h21 => Stp.call fok25 rfl rfl (Calls.mono ((closR_any ms v (moAt ms m).root w21 (hms.ext (((hE.trans h11).trans h20).trans h21)) hm8)) ?_))  -- 11.4: t64 := call
          rintro _ w22 ⟨v22, rfl, h22, hcc22⟩
          refine ⟨v22, rfl, h22, ?_⟩
          --  -- 11.5: t65 := call
          refine ER.bar rfl rfl rfl rfl (fun w23 h23 => ?_)
          have hoa := (ho.ext (((h11.trans h20).trans h21).trans h22)).ext h23
          have g5a := (q5.ext (((h11.trans h20).trans h21).trans h22)).ext h23
          refine Stp.appendQ Try.underlying28 inf3 rfl rfl rfl hoa (by have := (q5.ext (((h11.trans h20).trans h21).trans h22)).lt; have := h23.size; omega) ((hcc22.ext h23).reads) (ints_one _) (by omega) (by unfold maxLen; omega) (fun vq w24 ob g24 nb => ?_)
          have eb := (((((hE.trans h11).trans h20).trans h21).trans h22).trans h23).grown g24 (fun k hk => by have := (hoa.lt k hk).1; omega)
          have g5 := g5a.grown g24 (fun e => by have := (hoa.lt _ e.symm).1; have := (q5.ext (((h11.trans h20).trans h21).trans h22)).lt; omega)
          refine ER.sil rfl rfl rfl rfl (Sil.assign rfl) ?_  -- 11.6: t6 := assign
          refine ER.nil (fun w25 h25 => ?_)
          refine AQ.join ⟨0, vq⟩ [0, 5, 6] rfl ⟨(eb.trans h25), (g5.ext h25), ?_⟩
          rw [candL, cand2, if_pos (show hasClo (moAt ms m) = true from hb3), hc1]
          have hob := (ob.ext h25)
          rw [← List.length_append, ← List.map_append] at hob
          exact Ints.of_q hob
        ·
          refine EC.skip ?_
          refine AQ.join ⟨0, q.v⟩ [0, 5, 6] rfl ⟨((hE.trans h11).trans h20), (q5.ext (h11.trans h20)), ?_⟩
          rw [candL, cand2, if_neg (by rw [show hasClo (moAt ms m) = false from hb3]; exact Bool.false_ne_true), List.append_nil, hc1]
          exact Ints.of_q (ho.ext (h11.trans h20))
      obtain ⟨hwj, q5, hall⟩ := hF
      have hq5 := q5.lt
      have ham := hall.max
      refine EC.seq ?_
      -- region 12  ref.go:51
      refine EC.region (fun i => [1].getD i 0) [0] rfl ?_
      refine ER.sil rfl rfl rfl rfl (Sil.assign rfl) ?_  -- 12.0: t8 := assign
      refine ER.nil (fun w26 h26 => ?_)
      refine AQ.then ?_
      refine EC.seq ?_
      refine EC.seq ?_
      -- region 13  ref.go:52
      refine EC.region (fun i => [1].getD i 0) [0] rfl ?_
      refine ER.sil rfl rfl rfl rfl (Sil.assign rfl) ?_  -- 13.0: t9 := assign
      refine ER.nil (fun w27 h27 => ?_)
      refine AQ.then ?_
      refine EC.block ?_
      refine EC.loop (σ := CloV) (fun r => [(0, v), (5, ptr w4.heap.size), (6, q.v), (8, r.v), (9, .int .i64 (r.i : Int))]) (fun r wr => Ext wj wr ∧ Row wr w4.heap.size 56 cs ∧ r.i ≤ (candL ms (moAt ms m)).length ∧ OwnQ wr wj.heap.size 3 1 r.v (keepL ms (moAt ms m) ((candL ms (moAt ms m)).take r.i) []).length ((keepL ms (moAt ms m) ((candL ms (moAt ms m)).take r.i) []).map (Value.int .i64))) (fun r => (candL ms (moAt ms m)).length - r.i) ⟨0, .slice none 0 0⟩ [0, 5, 6, 8, 9] rfl ?_ (fun r wr hF => ?_)
      · exact ⟨(h26.trans h27), (q5.ext (h26.trans h27)), Nat.zero_le _, OwnQ.of_own (World.ownsRow_nil _ _ _ _)⟩
      obtain ⟨hE, q5, hi, ho⟩ := hF
      have hlen := keepTo_len ms (moAt ms m) r.i
      refine EC.seq ?_
      refine EC.seq ?_
      -- region 14  ref.go:52
      refine EC.region (fun i => [1, 1, 1, 1].getD i 0) [0, 1, 2, 3] rfl ?_
      refine ER.sil rfl rfl rfl rfl (Sil.move rfl) ?_  -- 14.0: t66 := move
      refine ER.sil rfl rfl rfl rfl (Sil.move rfl) ?_  -- 14.1: t67 := move
      refine ER.sil rfl rfl rfl rfl (Sil.lenR Try.underlying28 rfl (Ints.isS hall)) ?_  -- 14.2: t68 := call
      refine ER.sil rfl rfl rfl rfl (Sil.lss rfl rfl) ?_  -- 14.3: t69 := binOp
      refine ER.nil (fun w28 h28 => ?_)
      refine AQ.then ?_
      refine EC.cond rfl (fun hb4 => ?_) (fun hb4 => ?_)  -- cond 4: t69
      ·
        have hlt : r.i < (candL ms (moAt ms m)).length := by have := of_decide_eq_true hb4; omega
        have hin : InR ms (candL ms (moAt ms m))[r.i] := candL_in _ (List.getElem_mem hlt)
        obtain ⟨ys, hyl, hyat, hyo⟩ := hms.elem hin
        refine EC.skip ?_
        refine AQ.then ?_
        refine EC.seq ?_
        refine EC.block ?_
        refine EC.seq ?_
        -- region 16  ref.go:53
        refine EC.region (fun i => [1, 1, 1, 1, 0, 1, 0, 2, 3].getD i 0) [0, 1, 2, 3, 4, 5, 6, 7, 8] rfl ?_
        refine ER.sil rfl rfl rfl rfl (Sil.move rfl) ?_  -- 16.0: t72 := move
        refine ER.sil rfl rfl rfl rfl (Sil.move rfl) ?_  -- 16.1: t73 := move
        refine ER.sil rfl rfl rfl rfl (Sil.move rfl) ?_  -- 16.2: t74 := move
        refine ER.sil rfl rfl rfl rfl (Sil.indexR Try.underlying28 inf3 rfl rfl (Ints.isE hall (by omega)) (by omega) (by omega)) ?_  -- 16.3: t75 := indexAddr
        refine ER.ex rfl rfl rfl rfl (Exa.load flat3 rfl (Ints.cell (hall.ext (hE.trans h28)) hlt)) ?_  -- 16.4: t76 := load
        refine ER.sil rfl rfl rfl rfl (Sil.indexR Try.underlying22 inf56 rfl rfl (Mods.isE hms (by have := hin.1; have := hin.2; omega)) (hin.1) (hin.2)) ?_  -- 16.5: t77 := indexAddr
        refine ER.ex rfl rfl rfl rfl (Exa.loadAgg (vs := ys) (by rw [hyl]; exact agg56) rfl (hyat.ext (hwj.trans (hE.trans h28)))) ?_  -- 16.6: t78 := load
        refine ER.st rfl rfl rfl rfl (fun w29 h29 => Stp.alloc inf56 (fun w30 h30 s30 r30 => ⟨h30, ?_⟩))  -- 16.7: t10 := alloc
        refine ER.bar rfl rfl rfl rfl (fun w31 h31 => Stp.store (mo_sz hyl) rfl rfl (r30.ext h31) (ag_len (by rw [hyl]; rfl)) (mo_one hyo.one) (fun w32 u32 r32 => ?_))  -- 16.8: tNone := store
        have e32 := ((h29.trans h30).trans h31).upd u32 h29.size
        refine ER.nil (fun w33 h33 => ?_)
        refine AQ.then ?_
        refine EC.seq ?_
        -- region 17  ref.go:54
        refine EC.region (fun i => [1, 1, 1, 1, 0, 0, 1, 1, 1, 0, 1, 1, 1, 1, 0, 1, 1, 0, 1, 1, 1].getD i 0) [0, 1, 2, 3, 4, 5, 6, 7, 8, 9, 10, 11, 12, 13, 14, 15, 16, 17, 18, 19, 20] rfl ?_
        refine ER.sil rfl rfl rfl rfl (Sil.move rfl) ?_  -- 17.0: t79 := move
        refine ER.sil rfl rfl rfl rfl (Sil.move rfl) ?_  -- 17.1: t80 := move
        refine ER.sil rfl rfl rfl rfl (Sil.move rfl) ?_  -- 17.2: t81 := move
        refine ER.sil rfl rfl rfl rfl (Sil.indexR Try.underlying28 inf3 rfl rfl (Ints.isE hall (by omega)) (by omega) (by omega)) ?_  -- 17.3: t82 := indexAddr
        refine ER.ex rfl rfl rfl rfl (Exa.load flat3 rfl (Ints.cell (hall.ext (((hE.trans h28).trans e32).trans h33)) hlt)) ?_  -- 17.4: t83 := load
        refine ER.ex rfl rfl rfl rfl (Exa.call fok26 rfl rfl (fun wx hx => (has31_any (keepL ms (moAt ms m) ((candL ms (moAt ms m)).take r.i) []) _ (candL ms (moAt ms m))[r.i] wx ((Ints.of_q (ho.ext ((h28.trans e32).trans h33))).ext hx)))) ?_  -- 17.5: t84 := call
        refine ER.sil rfl rfl rfl rfl (Sil.not rfl) ?_  -- 17.6: t85 := unOp
        refine ER.sil rfl rfl rfl rfl (Sil.move rfl) ?_  -- 17.7: t86 := move
        refine ER.silG rfl rfl rfl rfl rfl rfl (fun hc => Sil.fieldAddr Try.underlying56 rfl inf3 rfl) ?_  -- 17.8: t87 := fieldAddr
        refine ER.exG rfl rfl rfl rfl rfl rfl (fun hc => Exa.load flat3 (congrArg some (sel_eq hc _)) (((r32.ext h33)).cell hyo.baseC)) ?_  -- 17.9: t88 := load
        refine ER.silG rfl rfl rfl rfl rfl rfl (fun hc => Sil.geq (congrArg some (sel_eq hc _)) rfl) ?_  -- 17.10: t89 := binOp
        refine ER.sil rfl rfl rfl rfl (Sil.pickAnd rfl rfl rfl) ?_  -- 17.11: t90 := pick
        refine ER.sil rfl rfl rfl rfl (Sil.move rfl) ?_  -- 17.12: t91 := move
        refine ER.silG rfl rfl rfl rfl rfl rfl (fun hc => Sil.fieldAddr Try.underlying56 rfl inf4 rfl) ?_  -- 17.13: t92 := fieldAddr
        refine ER.exG rfl rfl rfl rfl rfl rfl (fun hc => Exa.load flat4 (congrArg some (sel_eq hc _)) (((q5.ext ((h28.trans e32).trans h33))).cell hco.goneC)) ?_  -- 17.14: t93 := load
        refine ER.silG rfl rfl rfl rfl rfl rfl (fun hc => Sil.move (congrArg some (sel_eq hc _))) ?_  -- 17.15: t94 := move
        refine ER.silGG rfl rfl rfl rfl rfl rfl (fun hp hc => Sil.fieldAddr Try.underlying56 rfl inf4 rfl) ?_  -- 17.16: t95 := fieldAddr
        refine ER.exGG rfl rfl rfl rfl rfl rfl (fun hp hc => Exa.load flat4 (congrArg some (sel_2 hp hc _)) (((r32.ext h33)).cell hyo.goneC)) ?_  -- 17.17: t96 := load
        refine ER.silGG rfl rfl rfl rfl rfl rfl (fun hp hc => Sil.not (congrArg some (sel_2 hp hc _))) ?_  -- 17.18: t97 := unOp
        refine ER.silG rfl rfl rfl rfl rfl rfl (fun hc => Sil.pickOr (congrArg some (sel_eq hc _)) rfl (congrArg some (sel_in hc _ _))) ?_  -- 17.19: t98 := pick
        refine ER.sil rfl rfl rfl rfl (Sil.pickAnd rfl rfl rfl) ?_  -- 17.20: t99 := pick
        refine ER.nil (fun w34 h34 => ?_)
        refine AQ.then ?_
        refine EC.cond rfl (fun hb5 => ?_) (fun hb5 => ?_)  -- cond 5: t99
        ·
          have hkp := keep_yes2 hb5
          -- region 18  ref.go:55
          refine EC.region (fun i => [1, 1, 1, 1, 0, 2, 3, 1].getD i 0) [0, 1, 2, 3, 4, 5, 6, 7] rfl ?_
          refine ER.sil rfl rfl rfl rfl (Sil.move rfl) ?_  -- 18.0: t100 := move
          refine ER.sil rfl rfl rfl rfl (Sil.move rfl) ?_  -- 18.1: t101 := move
          refine ER.sil rfl rfl rfl rfl (Sil.move rfl) ?_  -- 18.2: t102 := move
          refine ER.sil rfl rfl rfl rfl (Sil.indexR Try.underlying28 inf3 rfl rfl (Ints.isE hall (by omega)) (by omega) (by omega)) ?_  -- 18.3: t103 := indexAddr
          refine ER.ex rfl rfl rfl rfl (Exa.load flat3 rfl (Ints.cell (hall.ext ((((hE.trans h28).trans e32).trans h33).trans h34)) hlt)) ?_  -- 18.4: t104 := load
          refine ER.st rfl rfl rfl rfl (fun w35 h35 => Stp.buildAll [_] Try.underlying28 inf3 rfl rfl rfl rfl rfl rfl (fun w36 h36 s36 r36 => ⟨h36, ?_⟩))  -- 18.5: t105 := buildSlice
          --  -- 18.6: t106 := call
          refine ER.bar rfl rfl rfl rfl (fun w37 h37 => ?_)
          have hoa := (ho.ext (((((h28.trans e32).trans h33).trans h34).trans h35).trans h36)).ext h37
          have g5a := (q5.ext (((((h28.trans e32).trans h33).trans h34).trans h35).trans h36)).ext h37
          refine Stp.appendQ Try.underlying28 inf3 rfl rfl rfl hoa ((((((((hE.trans h28).trans e32).trans h33).trans h34).trans h35).trans h36).trans h37).size) (Reads.of_row (r36.ext h37) rfl (by decide)) (ints_one [_]) (by omega) (by unfold maxLen; omega) (fun vq w38 ob g38 nb => ?_)
          have eb := (((((((hE.trans h28).trans e32).trans h33).trans h34).trans h35).trans h36).trans h37).grown g38 (fun k hk => by have := (hoa.lt k hk).1; omega)
          have g5 := g5a.grown g38 (fun e => by have := (hoa.lt _ e.symm).1; have := (q5.ext (((((h28.trans e32).trans h33).trans h34).trans h35).trans h36)).lt; omega)
          refine ER.sil rfl rfl rfl rfl (Sil.assign rfl) ?_  -- 18.7: t8 := assign
          refine ER.nil (fun w39 h39 => ?_)
          refine AQ.blockNormal ?_
          refine AQ.then ?_
          -- region 15  ref.go:52
          refine EC.region (fun i => [1, 1, 1].getD i 0) [0, 1, 2] rfl ?_
          refine ER.sil rfl rfl rfl rfl (Sil.move rfl) ?_  -- 15.0: t70 := move
          refine ER.sil rfl rfl rfl rfl (Sil.add rfl rfl) ?_  -- 15.1: t71 := binOp
          refine ER.sil rfl rfl rfl rfl (Sil.assign rfl) ?_  -- 15.2: t9 := assign
          refine ER.nil (fun w40 h40 => ?_)
          refine AQ.round ⟨r.i + 1, vq⟩ [0, 5, 6, 8, 9] (by rw [← wrap_succ hlt ham]; rfl) ⟨((eb.trans h39).trans h40), (g5.ext (h39.trans h40)), hlt, ?_⟩ (by simp only; omega)
          simp only [keepL_take _ _ _ _ hlt, hkp, List.length_append, List.map_append]
          exact (ob.ext (h39.trans h40))
        ·
          have hkp := keep_no2 hb5
          refine EC.skip ?_
          refine AQ.blockNormal ?_
          refine AQ.then ?_
          -- region 15  ref.go:52
          refine EC.region (fun i => [1, 1, 1].getD i 0) [0, 1, 2] rfl ?_
          refine ER.sil rfl rfl rfl rfl (Sil.move rfl) ?_  -- 15.0: t70 := move
          refine ER.sil rfl rfl rfl rfl (Sil.add rfl rfl) ?_  -- 15.1: t71 := binOp
          refine ER.sil rfl rfl rfl rfl (Sil.assign rfl) ?_  -- 15.2: t9 := assign
          refine ER.nil (fun w41 h41 => ?_)
          refine AQ.round ⟨r.i + 1, r.v⟩ [0, 5, 6, 8, 9] (by rw [← wrap_succ hlt ham]; rfl) ⟨(((((hE.trans h28).trans e32).trans h33).trans h34).trans h41), (q5.ext ((((h28.trans e32).trans h33).trans h34).trans h41)), hlt, ?_⟩ (by simp only; omega)
          simp only [keepL_take _ _ _ _ hlt, hkp]
          exact (ho.ext ((((h28.trans e32).trans h33).trans h34).trans h41))
      ·
        refine EC.exit ?_
        refine AQ.thenExit ?_
        refine AQ.thenExit ?_
        refine AQ.blockHit ?_
        refine AQ.then ?_
        refine EC.seq ?_
        -- region 19  ref.go:58
        refine EC.region (fun i => [1, 1].getD i 0) [0, 1] rfl ?_
        refine ER.sil rfl rfl rfl rfl (Sil.move rfl) ?_  -- 19.0: t107 := move
        refine ER.sil rfl rfl rfl rfl (Sil.assign rfl) ?_  -- 19.1: t4 := assign
        refine ER.nil (fun w42 h42 => ?_)
        refine AQ.then ?_
        refine EC.ret ?_
        refine AQ.ret1 Try.results14 rfl ?_
        have hge : r.i = (candL ms (moAt ms m)).length := by have := of_decide_eq_false hb4; omega
        have hob := (ho.ext (h28.trans h42))
        rw [hge, List.take_length] at hob
        exact ⟨_, rfl, hwj.trans ((hE.trans h28).trans h42), by rw [scopeL, if_pos hk, scopeOf]; exact Ints.of_q hob⟩

end Go.Proofs.Ytgagjmapjdeknaa
