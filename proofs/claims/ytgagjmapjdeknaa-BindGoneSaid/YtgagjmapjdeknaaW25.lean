/- Bind: the law Gone, walked. -/
import Derived.Test.YtgagjmapjdeknaaW24
namespace Go.Proofs.Ytgagjmapjdeknaa
open Go.RowKit Go.XK Go.BindLaw

-- linchpin/linchpinlaw31.BindGone: parameters ['[]api.Module', 'int', 'int', 'string', 'string'] (free 0), results [('ResultVar.tmp', 10)], 151 slots
set_option maxRecDepth 100000 in
theorem gone_any (ms : List Mo) (v : Value) (g m : Int) (name want : ByteArray) (w : World) (hms : Mods w v ms) :
    Calls Try.prog 7 [v, .int .i64 g, .int .i64 m, .string name, .string want].toArray w fun e w' => e = .returned (.bool true) ∧ Ext w w' := by
  have hm := hms.max
  obtain ⟨css, ⟨hrd, hK⟩, hcl, hq⟩ := id hms
  have hlen := scopeL_len ms m
  refine calls_of Try.func7 rfl Try.ntmps7 rfl ?_
  refine EC.seq ?_
  -- region 0  law.go:185
  refine EC.region (fun i => [1].getD i 0) [0] rfl ?_
  refine ER.sil rfl rfl rfl rfl (Sil.assign rfl) ?_  -- 0.0: t10 := assign
  refine ER.nil (fun w1 h1 => ?_)
  refine AQ.then ?_
  refine EC.seq ?_
  -- region 1  law.go:186
  refine EC.region (fun i => [0, 1].getD i 0) [0, 1] rfl ?_
  refine ER.ex rfl rfl rfl rfl (Exa.call fok8 rfl rfl (fun wx hx => (small_any wx))) ?_  -- 1.0: t23 := call
  refine ER.sil rfl rfl rfl rfl (Sil.assign rfl) ?_  -- 1.1: t11 := assign
  refine ER.nil (fun w2 h2 => ?_)
  refine AQ.then ?_
  refine EC.seq ?_
  refine EC.seq ?_
  -- region 2  law.go:187
  refine EC.region (fun i => [1, 0, 1, 1, 1, 1, 1, 1, 1, 1, 1, 1, 1, 1, 1, 1, 1, 1, 1, 1, 1, 1, 1, 1, 1, 1, 1, 1].getD i 0) [0, 1, 2, 3, 4, 5, 6, 7, 8, 9, 10, 11, 12, 13, 14, 15, 16, 17, 18, 19, 20, 21, 22, 23, 24, 25, 26, 27] rfl ?_
  refine ER.sil rfl rfl rfl rfl (Sil.move rfl) ?_  -- 2.0: t24 := move
  refine ER.ex rfl rfl rfl rfl (Exa.call fok9 rfl rfl (fun wx hx => (few_any ms v wx (hms.ext ((h1.trans h2).trans hx))))) ?_  -- 2.1: t25 := call
  refine ER.sil rfl rfl rfl rfl (Sil.not rfl) ?_  -- 2.2: t26 := unOp
  refine ER.sil rfl rfl rfl rfl (Sil.move rfl) ?_  -- 2.3: t27 := move
  refine ER.silG rfl rfl rfl rfl rfl rfl (fun hc => Sil.move rfl) ?_  -- 2.4: t28 := move
  refine ER.silG rfl rfl rfl rfl rfl rfl (fun hc => Sil.lss (congrArg some (sel_eq hc _)) rfl) ?_  -- 2.5: t29 := binOp
  refine ER.sil rfl rfl rfl rfl (Sil.pickOr rfl rfl rfl) ?_  -- 2.6: t30 := pick
  refine ER.sil rfl rfl rfl rfl (Sil.move rfl) ?_  -- 2.7: t31 := move
  refine ER.silG rfl rfl rfl rfl rfl rfl (fun hc => Sil.move rfl) ?_  -- 2.8: t32 := move
  refine ER.silG rfl rfl rfl rfl rfl rfl (fun hc => Sil.move rfl) ?_  -- 2.9: t33 := move
  refine ER.silG rfl rfl rfl rfl rfl rfl (fun hc => Sil.lenR Try.underlying22 (congrArg some (sel_eq hc _)) (Mods.isS hms)) ?_  -- 2.10: t34 := call
  refine ER.silG rfl rfl rfl rfl rfl rfl (fun hc => Sil.geq (congrArg some (sel_eq hc _)) (congrArg some (sel_eq hc _))) ?_  -- 2.11: t35 := binOp
  refine ER.sil rfl rfl rfl rfl (Sil.pickOr rfl rfl rfl) ?_  -- 2.12: t36 := pick
  refine ER.sil rfl rfl rfl rfl (Sil.move rfl) ?_  -- 2.13: t37 := move
  refine ER.silG rfl rfl rfl rfl rfl rfl (fun hc => Sil.move rfl) ?_  -- 2.14: t38 := move
  refine ER.silG rfl rfl rfl rfl rfl rfl (fun hc => Sil.lss (congrArg some (sel_eq hc _)) rfl) ?_  -- 2.15: t39 := binOp
  refine ER.sil rfl rfl rfl rfl (Sil.pickOr rfl rfl rfl) ?_  -- 2.16: t40 := pick
  refine ER.sil rfl rfl rfl rfl (Sil.move rfl) ?_  -- 2.17: t41 := move
  refine ER.silG rfl rfl rfl rfl rfl rfl (fun hc => Sil.move rfl) ?_  -- 2.18: t42 := move
  refine ER.silG rfl rfl rfl rfl rfl rfl (fun hc => Sil.move rfl) ?_  -- 2.19: t43 := move
  refine ER.silG rfl rfl rfl rfl rfl rfl (fun hc => Sil.lenR Try.underlying22 (congrArg some (sel_eq hc _)) (Mods.isS hms)) ?_  -- 2.20: t44 := call
  refine ER.silG rfl rfl rfl rfl rfl rfl (fun hc => Sil.geq (congrArg some (sel_eq hc _)) (congrArg some (sel_eq hc _))) ?_  -- 2.21: t45 := binOp
  refine ER.sil rfl rfl rfl rfl (Sil.pickOr rfl rfl rfl) ?_  -- 2.22: t46 := pick
  refine ER.sil rfl rfl rfl rfl (Sil.move rfl) ?_  -- 2.23: t47 := move
  refine ER.silG rfl rfl rfl rfl rfl rfl (fun hc => Sil.move rfl) ?_  -- 2.24: t48 := move
  refine ER.silG rfl rfl rfl rfl rfl rfl (fun hc => Sil.move rfl) ?_  -- 2.25: t49 := move
  refine ER.silG rfl rfl rfl rfl rfl rfl (fun hc => Sil.eql (congrArg some (sel_eq hc _)) (congrArg some (sel_eq hc _))) ?_  -- 2.26: t50 := binOp
  refine ER.sil rfl rfl rfl rfl (Sil.pickOr rfl rfl rfl) ?_  -- 2.27: t51 := pick
  refine ER.nil (fun w3 h3 => ?_)
  refine AQ.then ?_
  refine EC.cond rfl (fun hb0 => ?_) (fun hb0 => ?_)  -- cond 0: t51
  ·
    refine EC.seq ?_
    -- region 3  law.go:188
    refine EC.region (fun i => [1, 1].getD i 0) [0, 1] rfl ?_
    refine ER.sil rfl rfl rfl rfl (Sil.move rfl) ?_  -- 3.0: t52 := move
    refine ER.sil rfl rfl rfl rfl (Sil.assign rfl) ?_  -- 3.1: t10 := assign
    refine ER.nil (fun w4 h4 => ?_)
    refine AQ.then ?_
    refine EC.ret ?_
    refine AQ.thenRet ?_
    refine AQ.ret1 Try.results7 rfl ?_
    exact ⟨rfl, (((h1.trans h2).trans h3).trans h4)⟩
  ·
    simp only [Bool.or_eq_false_iff, Bool.not_eq_false', decide_eq_false_iff_not] at hb0
    have hfew : fewB ms = true := hb0.1.1.1.1.1
    obtain ⟨gn, rfl⟩ := Int.eq_ofNat_of_zero_le (show 0 ≤ g by omega)
    have hglt : gn < ms.length := by omega
    have hk : InR ms m := by unfold InR; omega
    have hgm : m ≠ (gn : Int) := by
      have h := hb0.2
      intro e
      rw [e] at h
      simp at h
    have h1000 := few_len hfew
    have hg1000 : (BindLaw.setGone ms gn).length ≤ 1000 := by rw [BindLaw.setGone_len]; exact h1000
    refine EC.skip ?_
    refine AQ.then ?_
    refine EC.seq ?_
    refine EC.seq ?_
    -- region 4  law.go:190
    refine EC.region (fun i => [1].getD i 0) [0] rfl ?_
    refine ER.sil rfl rfl rfl rfl (Sil.assign rfl) ?_  -- 4.0: t12 := assign
    refine ER.nil (fun w5 h5 => ?_)
    refine AQ.then ?_
    refine EC.block ?_
    refine EC.loop (σ := Nat) (fun i => [(0, v), (1, .int .i64 (gn : Int)), (2, .int .i64 m), (3, .string name), (4, .string want), (11, .bool true), (12, .int .i64 (i : Int))]) (fun i wr => Ext w wr ∧ i ≤ ms.length ∧ ∀ j (h : j < ms.length), j < i → ms[j].gone = false) (fun i => ms.length - i) 0 [0, 1, 2, 3, 4, 11, 12] rfl ?_ (fun i wr hF => ?_)
    · exact ⟨(((h1.trans h2).trans h3).trans h5), Nat.zero_le _, fun j _ h => absurd h (Nat.not_lt_zero j)⟩
    obtain ⟨hE, hi, hok⟩ := hF
    refine EC.seq ?_
    refine EC.seq ?_
    -- region 5  law.go:190
    refine EC.region (fun i => [1, 1, 1, 1].getD i 0) [0, 1, 2, 3] rfl ?_
    refine ER.sil rfl rfl rfl rfl (Sil.move rfl) ?_  -- 5.0: t53 := move
    refine ER.sil rfl rfl rfl rfl (Sil.move rfl) ?_  -- 5.1: t54 := move
    refine ER.sil rfl rfl rfl rfl (Sil.lenR Try.underlying22 rfl (Mods.isS hms)) ?_  -- 5.2: t55 := call
    refine ER.sil rfl rfl rfl rfl (Sil.lss rfl rfl) ?_  -- 5.3: t56 := binOp
    refine ER.nil (fun w6 h6 => ?_)
    refine AQ.then ?_
    refine EC.cond rfl (fun hb1 => ?_) (fun hb1 => ?_)  -- cond 1: t56
    ·
      have hlt : i < ms.length := by have := of_decide_eq_true hb1; omega
      have hmi := moAt_nat hlt
      refine EC.skip ?_
      refine AQ.then ?_
      refine EC.seq ?_
      refine EC.block ?_
      refine EC.seq ?_
      -- region 7  law.go:191
      refine EC.region (fun i => [1, 1, 1, 1, 0].getD i 0) [0, 1, 2, 3, 4] rfl ?_
      refine ER.sil rfl rfl rfl rfl (Sil.move rfl) ?_  -- 7.0: t59 := move
      refine ER.sil rfl rfl rfl rfl (Sil.move rfl) ?_  -- 7.1: t60 := move
      refine ER.sil rfl rfl rfl rfl (Sil.indexR Try.underlying22 inf56 rfl rfl (Mods.isE hms (by omega)) (by omega) (by omega)) ?_  -- 7.2: t61 := indexAddr
      refine ER.sil rfl rfl rfl rfl (Sil.fieldAddr Try.underlying56 rfl inf4 rfl) ?_  -- 7.3: t62 := fieldAddr
      refine ER.ex rfl rfl rfl rfl (Exa.load flat4 rfl (Mods.gone (hms.ext (hE.trans h6)) (hms.inR hlt))) ?_  -- 7.4: t63 := load
      refine ER.nil (fun w7 h7 => ?_)
      refine AQ.then ?_
      refine EC.cond rfl (fun hb2 => ?_) (fun hb2 => ?_)  -- cond 2: t63
      ·
        refine EC.seq ?_
        -- region 8  law.go:192
        refine EC.region (fun i => [1, 1].getD i 0) [0, 1] rfl ?_
        refine ER.sil rfl rfl rfl rfl (Sil.move rfl) ?_  -- 8.0: t64 := move
        refine ER.sil rfl rfl rfl rfl (Sil.assign rfl) ?_  -- 8.1: t10 := assign
        refine ER.nil (fun w8 h8 => ?_)
        refine AQ.then ?_
        refine EC.ret ?_
        refine AQ.blockRet ?_
        refine AQ.thenRet ?_
        refine AQ.thenRet ?_
        refine AQ.blockRet ?_
        refine AQ.thenRet ?_
        refine AQ.ret1 Try.results7 rfl ?_
        exact ⟨rfl, (((hE.trans h6).trans h7).trans h8)⟩
      ·
        rw [hmi] at hb2
        refine EC.skip ?_
        refine AQ.blockNormal ?_
        refine AQ.then ?_
        -- region 6  law.go:190
        refine EC.region (fun i => [1, 1, 1].getD i 0) [0, 1, 2] rfl ?_
        refine ER.sil rfl rfl rfl rfl (Sil.move rfl) ?_  -- 6.0: t57 := move
        refine ER.sil rfl rfl rfl rfl (Sil.add rfl rfl) ?_  -- 6.1: t58 := binOp
        refine ER.sil rfl rfl rfl rfl (Sil.assign rfl) ?_  -- 6.2: t12 := assign
        refine ER.nil (fun w9 h9 => ?_)
        refine AQ.round (i + 1) [0, 1, 2, 3, 4, 11, 12] (by rw [← wrap_succ hlt hm]; rfl) ⟨(((hE.trans h6).trans h7).trans h9), hlt, fun j h hj => ?_⟩ (by omega)
        rcases Nat.lt_or_eq_of_le (Nat.le_of_lt_succ hj) with hj | rfl
        · exact hok j h hj
        · exact hb2
    ·
      have hng : noGone ms := fun j h => hok j h (by have := of_decide_eq_false hb1; omega)
      refine EC.exit ?_
      refine AQ.thenExit ?_
      refine AQ.thenExit ?_
      refine AQ.blockHit ?_
      refine AQ.then ?_
      refine EC.seq ?_
      -- region 9  law.go:195
      refine EC.region (fun i => [2, 1, 2, 1].getD i 0) [0, 1, 2, 3] rfl ?_
      have n0 := (hE.trans h6).size
      refine ER.st rfl rfl rfl rfl (fun w10 h10 => Stp.buildNil Try.underlying22 inf56 (fun w11 h11 s11 r11 => ⟨h11, ?_⟩))  -- 9.0: t65 := buildSlice
      have hq6 := Nat.le_trans n0 h10.size
      refine ER.sil rfl rfl rfl rfl (Sil.move rfl) ?_  -- 9.1: t66 := move
      refine ER.st rfl rfl rfl rfl (fun w12 h12 => ?_)  -- 9.2: t67 := call
      refine Stp.appendNew Try.underlying22 inf56 rfl rfl rfl (r11.ext h12) (hq6) (hrd.ext ((((hE.trans h6).trans h10).trans h11).trans h12)) (by rw [hcl]; omega) (by rw [hcl]; exact hm) (fun v13 w13 h13 o13 => ⟨h13, ?_⟩)
      refine ER.sil rfl rfl rfl rfl (Sil.assign rfl) ?_  -- 9.3: t13 := assign
      refine ER.nil (fun w14 h14 => ?_)
      refine AQ.then ?_
      refine EC.seq ?_
      -- region 10  law.go:196
      refine EC.region (fun i => [1, 1, 1, 1, 3].getD i 0) [0, 1, 2, 3, 4] rfl ?_
      refine ER.sil rfl rfl rfl rfl (Sil.move rfl) ?_  -- 10.0: t68 := move
      refine ER.sil rfl rfl rfl rfl (Sil.move rfl) ?_  -- 10.1: t69 := move
      refine ER.sil rfl rfl rfl rfl (Sil.indexR Try.underlying22 inf56 rfl rfl (Reads.isE (Reads.of_own (Ext.own o13 h14)) (by rw [hcl]; omega)) (by omega) (by rw [hcl]; omega)) ?_  -- 10.2: t70 := indexAddr
      refine ER.sil rfl rfl rfl rfl (Sil.fieldAddr Try.underlying56 rfl inf4 rfl) ?_  -- 10.3: t71 := fieldAddr
      --  -- 10.4: tNone := store
      refine ER.bar rfl rfl rfl rfl (fun w15 h15 => Stp.storeOwn (by kernel_rfl) rfl rfl (Ext.own (Ext.own o13 h14) h15) (c := (gn : Int).toNat * 32 + 30) (by rw [flatten_len css hK, hcl, Int.toNat_natCast]; omega) (by rw [← Nat.add_assoc]; rfl) rfl (fun w16 u16 o16 => ?_))
      have hx2 := (((((((hE.trans h6).trans h10).trans h11).trans h12).trans h13).trans h14).trans h15).upd u16 (own_blk (Ext.own o13 h14) (by rw [hcl]; omega))
      rw [Int.toNat_natCast] at o16
      have hall := Mods.setGone hx2 hglt o16 hK hcl hq
      refine ER.nil (fun w17 h17 => ?_)
      refine AQ.then ?_
      refine EC.seq ?_
      -- region 11  law.go:197
      refine EC.region (fun i => [1, 1, 2, 1].getD i 0) [0, 1, 2, 3] rfl ?_
      refine ER.sil rfl rfl rfl rfl (Sil.move rfl) ?_  -- 11.0: t72 := move
      refine ER.sil rfl rfl rfl rfl (Sil.move rfl) ?_  -- 11.1: t73 := move
      refine ER.st rfl rfl rfl rfl (fun w18 h18 => Stp.call fok13 rfl rfl (Calls.mono ((Scope_any ms v m w18 (hms.ext ((hx2.trans h17).trans h18)) h1000)) ?_))  -- 11.2: t74 := call
      rintro _ w19 ⟨v19, rfl, h19, hl19⟩
      refine ⟨v19, rfl, h19, ?_⟩
      have hwk := (((hx2.trans h17).trans h18).trans h19)
      have hallk := (hall.ext ((h17.trans h18).trans h19))
      have hlk := hl19
      have hlm := hlk.max
      refine ER.sil rfl rfl rfl rfl (Sil.assign rfl) ?_  -- 11.3: t14 := assign
      refine ER.nil (fun w20 h20 => ?_)
      refine AQ.then ?_
      refine EC.seq ?_
      -- region 12  law.go:198
      refine EC.region (fun i => [1].getD i 0) [0] rfl ?_
      refine ER.sil rfl rfl rfl rfl (Sil.assign rfl) ?_  -- 12.0: t15 := assign
      refine ER.nil (fun w21 h21 => ?_)
      refine AQ.then ?_
      refine EC.seq ?_
      refine EC.seq ?_
      -- region 13  law.go:199
      refine EC.region (fun i => [1].getD i 0) [0] rfl ?_
      refine ER.sil rfl rfl rfl rfl (Sil.assign rfl) ?_  -- 13.0: t16 := assign
      refine ER.nil (fun w22 h22 => ?_)
      refine AQ.then ?_
      refine EC.block ?_
      refine EC.loop (σ := CloV) (fun q => [(0, v), (1, .int .i64 (gn : Int)), (2, .int .i64 m), (3, .string name), (4, .string want), (11, .bool true), (13, v13), (14, v19), (15, q.v), (16, .int .i64 (q.i : Int))]) (fun q wr => Ext w19 wr ∧ q.i ≤ (scopeL ms m).length ∧ OwnQ wr w19.heap.size 3 1 q.v (((scopeL ms m).take q.i).filter (fun k => decide (k ≠ (gn : Int)))).length ((((scopeL ms m).take q.i).filter (fun k => decide (k ≠ (gn : Int)))).map (Value.int .i64))) (fun q => (scopeL ms m).length - q.i) ⟨0, .slice none 0 0⟩ [0, 1, 2, 3, 4, 11, 13, 14, 15, 16] rfl ?_ (fun q wr hF => ?_)
      · exact ⟨((h20.trans h21).trans h22), Nat.zero_le _, OwnQ.of_own (World.ownsRow_nil _ _ _ _)⟩
      obtain ⟨hE, hi, ho⟩ := hF
      refine EC.seq ?_
      refine EC.seq ?_
      -- region 14  law.go:199
      refine EC.region (fun i => [1, 1, 1, 1].getD i 0) [0, 1, 2, 3] rfl ?_
      refine ER.sil rfl rfl rfl rfl (Sil.move rfl) ?_  -- 14.0: t75 := move
      refine ER.sil rfl rfl rfl rfl (Sil.move rfl) ?_  -- 14.1: t76 := move
      refine ER.sil rfl rfl rfl rfl (Sil.lenR Try.underlying28 rfl (Ints.isS hlk)) ?_  -- 14.2: t77 := call
      refine ER.sil rfl rfl rfl rfl (Sil.lss rfl rfl) ?_  -- 14.3: t78 := binOp
      refine ER.nil (fun w23 h23 => ?_)
      refine AQ.then ?_
      refine EC.cond rfl (fun hb3 => ?_) (fun hb3 => ?_)  -- cond 3: t78
      ·
        have hlt : q.i < (scopeL ms m).length := by have := of_decide_eq_true hb3; omega
        refine EC.skip ?_
        refine AQ.then ?_
        refine EC.seq ?_
        refine EC.block ?_
        refine EC.seq ?_
        -- region 16  law.go:200
        refine EC.region (fun i => [1, 1, 1, 0, 1, 1].getD i 0) [0, 1, 2, 3, 4, 5] rfl ?_
        refine ER.sil rfl rfl rfl rfl (Sil.move rfl) ?_  -- 16.0: t81 := move
        refine ER.sil rfl rfl rfl rfl (Sil.move rfl) ?_  -- 16.1: t82 := move
        refine ER.sil rfl rfl rfl rfl (Sil.indexR Try.underlying28 inf3 rfl rfl (Ints.isE hlk (by omega)) (by omega) (by omega)) ?_  -- 16.2: t83 := indexAddr
        refine ER.ex rfl rfl rfl rfl (Exa.load flat3 rfl (Ints.cell (hlk.ext (hE.trans h23)) hlt)) ?_  -- 16.3: t84 := load
        refine ER.sil rfl rfl rfl rfl (Sil.move rfl) ?_  -- 16.4: t85 := move
        refine ER.sil rfl rfl rfl rfl (Sil.neq rfl rfl) ?_  -- 16.5: t86 := binOp
        refine ER.nil (fun w24 h24 => ?_)
        refine AQ.then ?_
        refine EC.cond rfl (fun hb4 => ?_) (fun hb4 => ?_)  -- cond 4: t86
        ·
          have hst : (((scopeL ms m).take (q.i + 1)).filter (fun k => decide (k ≠ (gn : Int)))) = (((scopeL ms m).take q.i).filter (fun k => decide (k ≠ (gn : Int)))) ++ [(scopeL ms m)[q.i]] := by rw [List.take_succ_eq_append_getElem hlt, List.filter_append]; congr 1; simp at hb4; simp [hb4]
          -- region 17  law.go:201
          refine EC.region (fun i => [1, 1, 1, 1, 0, 2, 3, 1].getD i 0) [0, 1, 2, 3, 4, 5, 6, 7] rfl ?_
          refine ER.sil rfl rfl rfl rfl (Sil.move rfl) ?_  -- 17.0: t87 := move
          refine ER.sil rfl rfl rfl rfl (Sil.move rfl) ?_  -- 17.1: t88 := move
          refine ER.sil rfl rfl rfl rfl (Sil.move rfl) ?_  -- 17.2: t89 := move
          refine ER.sil rfl rfl rfl rfl (Sil.indexR Try.underlying28 inf3 rfl rfl (Ints.isE hlk (by omega)) (by omega) (by omega)) ?_  -- 17.3: t90 := indexAddr
          refine ER.ex rfl rfl rfl rfl (Exa.load flat3 rfl (Ints.cell (hlk.ext ((hE.trans h23).trans h24)) hlt)) ?_  -- 17.4: t91 := load
          refine ER.st rfl rfl rfl rfl (fun w25 h25 => Stp.buildAll [_] Try.underlying28 inf3 rfl rfl rfl rfl rfl rfl (fun w26 h26 s26 r26 => ⟨h26, ?_⟩))  -- 17.5: t92 := buildSlice
          --  -- 17.6: t93 := call
          refine ER.bar rfl rfl rfl rfl (fun w27 h27 => ?_)
          have hoa := (ho.ext (((h23.trans h24).trans h25).trans h26)).ext h27
          refine Stp.appendQ Try.underlying28 inf3 rfl rfl rfl hoa ((((((hE.trans h23).trans h24).trans h25).trans h26).trans h27).size) (Reads.of_row (r26.ext h27) rfl (by decide)) (ints_one [_]) (by have := List.length_filter_le (fun k => decide (k ≠ (gn : Int))) ((scopeL ms m).take q.i); simp only [List.length_take] at this; omega) (by have := List.length_filter_le (fun k => decide (k ≠ (gn : Int))) ((scopeL ms m).take q.i); simp only [List.length_take] at this; unfold maxLen; omega) (fun vq w28 ob g28 nb => ?_)
          have eb := (((((hE.trans h23).trans h24).trans h25).trans h26).trans h27).grown g28 (fun k hk => (hoa.lt k hk).1)
          refine ER.sil rfl rfl rfl rfl (Sil.assign rfl) ?_  -- 17.7: t15 := assign
          refine ER.nil (fun w29 h29 => ?_)
          refine AQ.blockNormal ?_
          refine AQ.then ?_
          -- region 15  law.go:199
          refine EC.region (fun i => [1, 1, 1].getD i 0) [0, 1, 2] rfl ?_
          refine ER.sil rfl rfl rfl rfl (Sil.move rfl) ?_  -- 15.0: t79 := move
          refine ER.sil rfl rfl rfl rfl (Sil.add rfl rfl) ?_  -- 15.1: t80 := binOp
          refine ER.sil rfl rfl rfl rfl (Sil.assign rfl) ?_  -- 15.2: t16 := assign
          refine ER.nil (fun w30 h30 => ?_)
          refine AQ.round ⟨q.i + 1, vq⟩ [0, 1, 2, 3, 4, 11, 13, 14, 15, 16] (by rw [← wrap_succ hlt hlm]; rfl) ⟨((eb.trans h29).trans h30), hlt, ?_⟩ (by simp only; omega)
          simp only [hst, List.length_append, List.map_append]
          exact (ob.ext (h29.trans h30))
        ·
          have hst : (((scopeL ms m).take (q.i + 1)).filter (fun k => decide (k ≠ (gn : Int)))) = (((scopeL ms m).take q.i).filter (fun k => decide (k ≠ (gn : Int)))) := by rw [List.take_succ_eq_append_getElem hlt, List.filter_append]; simp at hb4; simp [hb4]
          refine EC.skip ?_
          refine AQ.blockNormal ?_
          refine AQ.then ?_
          -- region 15  law.go:199
          refine EC.region (fun i => [1, 1, 1].getD i 0) [0, 1, 2] rfl ?_
          refine ER.sil rfl rfl rfl rfl (Sil.move rfl) ?_  -- 15.0: t79 := move
          refine ER.sil rfl rfl rfl rfl (Sil.add rfl rfl) ?_  -- 15.1: t80 := binOp
          refine ER.sil rfl rfl rfl rfl (Sil.assign rfl) ?_  -- 15.2: t16 := assign
          refine ER.nil (fun w31 h31 => ?_)
          refine AQ.round ⟨q.i + 1, q.v⟩ [0, 1, 2, 3, 4, 11, 13, 14, 15, 16] (by rw [← wrap_succ hlt hlm]; rfl) ⟨(((hE.trans h23).trans h24).trans h31), hlt, ?_⟩ (by simp only; omega)
          simp only [hst]
          exact (ho.ext ((h23.trans h24).trans h31))
      ·
        have hge : q.i = (scopeL ms m).length := by have := of_decide_eq_false hb3; omega
        have hsame : (scopeL ms m).filter (fun k => decide (k ≠ (gn : Int))) = (((scopeL ms m).take q.i).filter (fun k => decide (k ≠ (gn : Int)))) := by rw [hge, List.take_length]
        refine EC.exit ?_
        refine AQ.thenExit ?_
        refine AQ.thenExit ?_
        refine AQ.blockHit ?_
        refine AQ.then ?_
        refine EC.seq ?_
        refine EC.seq ?_
        -- region 18  law.go:204
        refine EC.region (fun i => [1, 1, 2, 1, 0, 1].getD i 0) [0, 1, 2, 3, 4, 5] rfl ?_
        refine ER.sil rfl rfl rfl rfl (Sil.move rfl) ?_  -- 18.0: t94 := move
        refine ER.sil rfl rfl rfl rfl (Sil.move rfl) ?_  -- 18.1: t95 := move
        refine ER.st rfl rfl rfl rfl (fun w32 h32 => Stp.call fok13 rfl rfl (Calls.mono ((Scope_any (BindLaw.setGone ms gn) _ m w32 (hallk.ext ((hE.trans h23).trans h32)) hg1000)) ?_))  -- 18.2: t96 := call
        rintro _ w33 ⟨v33, rfl, h33, hs33⟩
        refine ⟨v33, rfl, h33, ?_⟩
        rw [scope_gone hng hk hgm] at hs33
        refine ER.sil rfl rfl rfl rfl (Sil.move rfl) ?_  -- 18.3: t97 := move
        refine ER.ex rfl rfl rfl rfl (Exa.call fok12 rfl rfl (fun wx hx => (same_any _ (((scopeL ms m).take q.i).filter (fun k => decide (k ≠ (gn : Int)))) _ _ wx (hs33.ext hx) ((Ints.of_q (ho.ext ((h23.trans h32).trans h33))).ext hx)))) ?_  -- 18.4: t98 := call
        rw [decide_eq_true hsame]
        refine ER.sil rfl rfl rfl rfl (Sil.not rfl) ?_  -- 18.5: t99 := unOp
        refine ER.nil (fun w34 h34 => ?_)
        refine AQ.then ?_
        refine EC.cond rfl (fun hb5 => ?_) (fun hb5 => ?_)  -- cond 5: t99
        ·
          cases hb5
        ·
          refine EC.skip ?_
          refine AQ.then ?_
          refine EC.seq ?_
          -- region 20  law.go:207
          refine EC.region (fun i => [1, 1, 1, 1, 0, 1, 1, 1, 1, 1, 1, 1].getD i 0) [0, 1, 2, 3, 4, 5, 6, 7, 8, 9, 10, 11] rfl ?_
          refine ER.sil rfl rfl rfl rfl (Sil.move rfl) ?_  -- 20.0: t101 := move
          refine ER.sil rfl rfl rfl rfl (Sil.move rfl) ?_  -- 20.1: t102 := move
          refine ER.sil rfl rfl rfl rfl (Sil.move rfl) ?_  -- 20.2: t103 := move
          refine ER.sil rfl rfl rfl rfl (Sil.move rfl) ?_  -- 20.3: t104 := move
          refine ER.ex rfl rfl rfl rfl (Exa.call fok10 rfl rfl (fun wx hx => (Find_any ms v m name want wx (hms.ext ((hwk.trans ((((hE.trans h23).trans h32).trans h33).trans h34)).trans hx)) h1000))) ?_  -- 20.4: t105 := call
          refine ER.sil rfl rfl rfl rfl (Sil.move rfl) ?_  -- 20.5: t100 := move
          refine ER.sil rfl rfl rfl rfl (Sil.extract rfl rfl) ?_  -- 20.6: t106 := extract
          refine ER.sil rfl rfl rfl rfl (Sil.extract rfl rfl) ?_  -- 20.7: t107 := extract
          refine ER.sil rfl rfl rfl rfl (Sil.extract rfl rfl) ?_  -- 20.8: t108 := extract
          refine ER.sil rfl rfl rfl rfl (Sil.assign rfl) ?_  -- 20.9: t17 := assign
          refine ER.sil rfl rfl rfl rfl (Sil.assign rfl) ?_  -- 20.10: t18 := assign
          refine ER.sil rfl rfl rfl rfl (Sil.assign rfl) ?_  -- 20.11: t19 := assign
          refine ER.nil (fun w35 h35 => ?_)
          refine AQ.then ?_
          refine EC.seq ?_
          -- region 21  law.go:208
          refine EC.region (fun i => [1, 1, 1, 1, 0, 1, 1, 1, 1, 1, 1, 1].getD i 0) [0, 1, 2, 3, 4, 5, 6, 7, 8, 9, 10, 11] rfl ?_
          refine ER.sil rfl rfl rfl rfl (Sil.move rfl) ?_  -- 21.0: t110 := move
          refine ER.sil rfl rfl rfl rfl (Sil.move rfl) ?_  -- 21.1: t111 := move
          refine ER.sil rfl rfl rfl rfl (Sil.move rfl) ?_  -- 21.2: t112 := move
          refine ER.sil rfl rfl rfl rfl (Sil.move rfl) ?_  -- 21.3: t113 := move
          refine ER.ex rfl rfl rfl rfl (Exa.call fok10 rfl rfl (fun wx hx => (Find_any (BindLaw.setGone ms gn) _ m name want wx (hallk.ext ((((((hE.trans h23).trans h32).trans h33).trans h34).trans h35).trans hx)) hg1000))) ?_  -- 21.4: t114 := call
          refine ER.sil rfl rfl rfl rfl (Sil.move rfl) ?_  -- 21.5: t109 := move
          refine ER.sil rfl rfl rfl rfl (Sil.extract rfl rfl) ?_  -- 21.6: t115 := extract
          refine ER.sil rfl rfl rfl rfl (Sil.extract rfl rfl) ?_  -- 21.7: t116 := extract
          refine ER.sil rfl rfl rfl rfl (Sil.extract rfl rfl) ?_  -- 21.8: t117 := extract
          refine ER.sil rfl rfl rfl rfl (Sil.assign rfl) ?_  -- 21.9: t20 := assign
          refine ER.sil rfl rfl rfl rfl (Sil.assign rfl) ?_  -- 21.10: t21 := assign
          refine ER.sil rfl rfl rfl rfl (Sil.assign rfl) ?_  -- 21.11: t22 := assign
          refine ER.nil (fun w36 h36 => ?_)
          refine AQ.then ?_
          refine EC.seq ?_
          -- region 22  law.go:209
          refine EC.region (fun i => [1, 1, 1, 1, 1, 1, 1, 1, 1, 1, 1, 1, 1, 1, 1, 1, 1, 1, 1, 1, 1, 1, 1, 1, 1, 1, 1, 1, 1, 1, 1, 1, 1, 1].getD i 0) [0, 1, 2, 3, 4, 5, 6, 7, 8, 9, 10, 11, 12, 13, 14, 15, 16, 17, 18, 19, 20, 21, 22, 23, 24, 25, 26, 27, 28, 29, 30, 31, 32, 33] rfl ?_
          refine ER.sil rfl rfl rfl rfl (Sil.move rfl) ?_  -- 22.0: t118 := move
          refine ER.sil rfl rfl rfl rfl (Sil.move rfl) ?_  -- 22.1: t119 := move
          refine ER.silD rfl rfl rfl rfl (rfl) rfl rfl (Sil.move rfl) ?_  -- 22.2: t120 := move
          refine ER.silD rfl rfl rfl rfl (rfl) rfl rfl (Sil.move rfl) ?_  -- 22.3: t121 := move
          refine ER.silG rfl rfl rfl rfl rfl rfl (fun hc => Sil.move rfl) ?_  -- 22.4: t122 := move
          refine ER.silG rfl rfl rfl rfl rfl rfl (fun hc => Sil.move rfl) ?_  -- 22.5: t123 := move
          refine ER.silG rfl rfl rfl rfl rfl rfl (fun hc => Sil.eql (congrArg some (sel_eq hc _)) (congrArg some (sel_eq hc _))) ?_  -- 22.6: t124 := binOp
          refine ER.silD rfl rfl rfl rfl (rfl) rfl rfl (Sil.pickAnd rfl rfl rfl) ?_  -- 22.7: t125 := pick
          refine ER.silD rfl rfl rfl rfl (rfl) rfl rfl (Sil.move rfl) ?_  -- 22.8: t126 := move
          refine ER.silG rfl rfl rfl rfl rfl rfl (fun hc => Sil.move rfl) ?_  -- 22.9: t127 := move
          refine ER.silG rfl rfl rfl rfl rfl rfl (fun hc => Sil.move rfl) ?_  -- 22.10: t128 := move
          refine ER.silG rfl rfl rfl rfl rfl rfl (fun hc => Sil.eql (congrArg some (sel_eq hc _)) (congrArg some (sel_eq hc _))) ?_  -- 22.11: t129 := binOp
          refine ER.silG rfl rfl rfl rfl rfl rfl (fun hc => Sil.move (congrArg some (sel_eq hc _))) ?_  -- 22.12: t130 := move
          refine ER.silGG rfl rfl rfl rfl rfl rfl (fun hp hc => Sil.move rfl) ?_  -- 22.13: t131 := move
          refine ER.silGG rfl rfl rfl rfl rfl rfl (fun hp hc => Sil.move rfl) ?_  -- 22.14: t132 := move
          refine ER.silGG rfl rfl rfl rfl rfl rfl (fun hp hc => Sil.eql (congrArg some (sel_2 hp hc _)) (congrArg some (sel_2 hp hc _))) ?_  -- 22.15: t133 := binOp
          refine ER.silG rfl rfl rfl rfl rfl rfl (fun hc => Sil.pickAnd (congrArg some (sel_eq hc _)) (congrArg some (sel_in hc _ _)) rfl) ?_  -- 22.16: t134 := pick
          refine ER.silG rfl rfl rfl rfl rfl rfl (fun hc => Sil.move (congrArg some (sel_eq hc _))) ?_  -- 22.17: t135 := move
          refine ER.silGG rfl rfl rfl rfl rfl rfl (fun hp hc => Sil.move rfl) ?_  -- 22.18: t136 := move
          refine ER.silGG rfl rfl rfl rfl rfl rfl (fun hp hc => Sil.move rfl) ?_  -- 22.19: t137 := move
          refine ER.silGG rfl rfl rfl rfl rfl rfl (fun hp hc => Sil.beql Try.underlying4 (congrArg some (sel_2 hp hc _)) (congrArg some (sel_2 hp hc _))) ?_  -- 22.20: t138 := binOp
          refine ER.silG rfl rfl rfl rfl rfl rfl (fun hc => Sil.pickAnd (congrArg some (sel_eq hc _)) (congrArg some (sel_in hc _ _)) rfl) ?_  -- 22.21: t139 := pick
          refine ER.silD rfl rfl rfl rfl (rfl) rfl rfl (Sil.pickOr rfl rfl rfl) ?_  -- 22.22: t140 := pick
          refine ER.sil rfl rfl rfl rfl (Sil.pick rfl rfl rfl) ?_  -- 22.23: t141 := pick
          refine ER.sil rfl rfl rfl rfl (Sil.move rfl) ?_  -- 22.24: t142 := move
          refine ER.silG rfl rfl rfl rfl rfl rfl (fun hc => Sil.move rfl) ?_  -- 22.25: t143 := move
          refine ER.silG rfl rfl rfl rfl rfl rfl (fun hc => Sil.not (congrArg some (sel_eq hc _))) ?_  -- 22.26: t144 := unOp
          refine ER.silG rfl rfl rfl rfl rfl rfl (fun hc => Sil.move (congrArg some (sel_eq hc _))) ?_  -- 22.27: t145 := move
          refine ER.silGG rfl rfl rfl rfl rfl rfl (fun hp hc => Sil.move rfl) ?_  -- 22.28: t146 := move
          refine ER.silGG rfl rfl rfl rfl rfl rfl (fun hp hc => Sil.move rfl) ?_  -- 22.29: t147 := move
          refine ER.silGG rfl rfl rfl rfl rfl rfl (fun hp hc => Sil.neq (congrArg some (sel_2 hp hc _)) (congrArg some (sel_2 hp hc _))) ?_  -- 22.30: t148 := binOp
          refine ER.silG rfl rfl rfl rfl rfl rfl (fun hc => Sil.pickOr (congrArg some (sel_eq hc _)) rfl (congrArg some (sel_in hc _ _))) ?_  -- 22.31: t149 := pick
          refine ER.sil rfl rfl rfl rfl (Sil.pickAnd rfl rfl rfl) ?_  -- 22.32: t150 := pick
          refine ER.sil rfl rfl rfl rfl (Sil.assign rfl) ?_  -- 22.33: t10 := assign
          refine ER.nil (fun w37 h37 => ?_)
          refine AQ.then ?_
          refine EC.ret ?_
          refine AQ.ret1 Try.results7 rfl ?_
          have hgo := gone_ok hng hk hgm name want
          refine ⟨?_, hwk.trans (((((((hE.trans h23).trans h32).trans h33).trans h34).trans h35).trans h36).trans h37)⟩
          simp only [hgo.1, hgo.2]
          rfl

end Go.Proofs.Ytgagjmapjdeknaa
