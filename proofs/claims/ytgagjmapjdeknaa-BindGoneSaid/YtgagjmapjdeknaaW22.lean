/- Bind: the law Scope, walked. -/
import Derived.Test.YtgagjmapjdeknaaW21
import Derived.Test.YtgagjmapjdeknaaPlain
import Derived.Test.YtgagjmapjdeknaaMake
namespace Go.Proofs.Ytgagjmapjdeknaa
open Go.RowKit Go.XK Go.BindLaw

-- linchpin/linchpinlaw31.BindScope: parameters ['[]api.Module', 'int'] (free 0), results [('ResultVar.tmp', 4)], 248 slots
set_option maxRecDepth 100000 in
theorem lscope_any (ms : List Mo) (v : Value) (m : Int) (w : World) (hms : Mods w v ms) :
    Calls Try.prog 4 [v, .int .i64 m].toArray w fun e w' => e = .returned (.bool true) ∧ Ext w w' := by
  have hm := hms.max
  refine calls_of Try.func4 rfl Try.ntmps4 rfl ?_
  refine EC.seq ?_
  -- region 0  law.go:86
  refine EC.region (fun i => [1].getD i 0) [0] rfl ?_
  refine ER.sil rfl rfl rfl rfl (Sil.assign rfl) ?_  -- 0.0: t4 := assign
  refine ER.nil (fun w1 h1 => ?_)
  refine AQ.then ?_
  refine EC.seq ?_
  -- region 1  law.go:87
  refine EC.region (fun i => [0, 1].getD i 0) [0, 1] rfl ?_
  refine ER.ex rfl rfl rfl rfl (Exa.call fok8 rfl rfl (fun wx hx => (small_any wx))) ?_  -- 1.0: t16 := call
  refine ER.sil rfl rfl rfl rfl (Sil.assign rfl) ?_  -- 1.1: t5 := assign
  refine ER.nil (fun w2 h2 => ?_)
  refine AQ.then ?_
  refine EC.seq ?_
  refine EC.seq ?_
  -- region 2  law.go:88
  refine EC.region (fun i => [1, 0, 1, 1, 1, 1, 1, 1, 1, 1, 1, 1, 1].getD i 0) [0, 1, 2, 3, 4, 5, 6, 7, 8, 9, 10, 11, 12] rfl ?_
  refine ER.sil rfl rfl rfl rfl (Sil.move rfl) ?_  -- 2.0: t17 := move
  refine ER.ex rfl rfl rfl rfl (Exa.call fok9 rfl rfl (fun wx hx => (few_any ms v wx (hms.ext ((h1.trans h2).trans hx))))) ?_  -- 2.1: t18 := call
  refine ER.sil rfl rfl rfl rfl (Sil.not rfl) ?_  -- 2.2: t19 := unOp
  refine ER.sil rfl rfl rfl rfl (Sil.move rfl) ?_  -- 2.3: t20 := move
  refine ER.silG rfl rfl rfl rfl rfl rfl (fun hc => Sil.move rfl) ?_  -- 2.4: t21 := move
  refine ER.silG rfl rfl rfl rfl rfl rfl (fun hc => Sil.lss (congrArg some (sel_eq hc _)) rfl) ?_  -- 2.5: t22 := binOp
  refine ER.sil rfl rfl rfl rfl (Sil.pickOr rfl rfl rfl) ?_  -- 2.6: t23 := pick
  refine ER.sil rfl rfl rfl rfl (Sil.move rfl) ?_  -- 2.7: t24 := move
  refine ER.silG rfl rfl rfl rfl rfl rfl (fun hc => Sil.move rfl) ?_  -- 2.8: t25 := move
  refine ER.silG rfl rfl rfl rfl rfl rfl (fun hc => Sil.move rfl) ?_  -- 2.9: t26 := move
  refine ER.silG rfl rfl rfl rfl rfl rfl (fun hc => Sil.lenR Try.underlying22 (congrArg some (sel_eq hc _)) (Mods.isS hms)) ?_  -- 2.10: t27 := call
  refine ER.silG rfl rfl rfl rfl rfl rfl (fun hc => Sil.geq (congrArg some (sel_eq hc _)) (congrArg some (sel_eq hc _))) ?_  -- 2.11: t28 := binOp
  refine ER.sil rfl rfl rfl rfl (Sil.pickOr rfl rfl rfl) ?_  -- 2.12: t29 := pick
  refine ER.nil (fun w3 h3 => ?_)
  refine AQ.then ?_
  refine EC.cond rfl (fun hb0 => ?_) (fun hb0 => ?_)  -- cond 0: t29
  ·
    refine EC.seq ?_
    -- region 3  law.go:89
    refine EC.region (fun i => [1, 1].getD i 0) [0, 1] rfl ?_
    refine ER.sil rfl rfl rfl rfl (Sil.move rfl) ?_  -- 3.0: t30 := move
    refine ER.sil rfl rfl rfl rfl (Sil.assign rfl) ?_  -- 3.1: t4 := assign
    refine ER.nil (fun w4 h4 => ?_)
    refine AQ.then ?_
    refine EC.ret ?_
    refine AQ.thenRet ?_
    refine AQ.ret1 Try.results4 rfl ?_
    exact ⟨rfl, (((h1.trans h2).trans h3).trans h4)⟩
  ·
    simp only [Bool.or_eq_false_iff, Bool.not_eq_false', decide_eq_false_iff_not] at hb0
    have hfew : fewB ms = true := hb0.1.1
    have h1000 := few_len hfew
    have hk : InR ms m := by unfold InR; omega
    obtain ⟨cs, hcl, hcat, hco⟩ := hms.elem hk
    refine EC.skip ?_
    refine AQ.then ?_
    refine EC.seq ?_
    -- region 4  law.go:91
    refine EC.region (fun i => [1, 1, 2, 1].getD i 0) [0, 1, 2, 3] rfl ?_
    refine ER.sil rfl rfl rfl rfl (Sil.move rfl) ?_  -- 4.0: t31 := move
    refine ER.sil rfl rfl rfl rfl (Sil.move rfl) ?_  -- 4.1: t32 := move
    refine ER.st rfl rfl rfl rfl (fun w5 h5 => Stp.call fok13 rfl rfl (Calls.mono ((Scope_any ms v m w5 (hms.ext (((h1.trans h2).trans h3).trans h5)) (few_len hfew))) ?_))  -- 4.2: t33 := call
    rintro _ w6 ⟨v6, rfl, h6, hl6⟩
    refine ⟨v6, rfl, h6, ?_⟩
    refine ER.sil rfl rfl rfl rfl (Sil.assign rfl) ?_  -- 4.3: t6 := assign
    refine ER.nil (fun w7 h7 => ?_)
    refine AQ.then ?_
    refine EC.seq ?_
    -- region 5  law.go:92
    refine EC.region (fun i => [1, 1, 1, 0, 2, 3].getD i 0) [0, 1, 2, 3, 4, 5] rfl ?_
    refine ER.sil rfl rfl rfl rfl (Sil.move rfl) ?_  -- 5.0: t34 := move
    refine ER.sil rfl rfl rfl rfl (Sil.move rfl) ?_  -- 5.1: t35 := move
    refine ER.sil rfl rfl rfl rfl (Sil.indexR Try.underlying22 inf56 rfl rfl (Mods.isE hms (by have := hk.1; have := hk.2; omega)) (hk.1) (hk.2)) ?_  -- 5.2: t36 := indexAddr
    refine ER.ex rfl rfl rfl rfl (Exa.loadAgg (vs := cs) (by rw [hcl]; exact agg56) rfl (hcat.ext (((((h1.trans h2).trans h3).trans h5).trans h6).trans h7))) ?_  -- 5.3: t37 := load
    refine ER.st rfl rfl rfl rfl (fun w8 h8 => Stp.alloc inf56 (fun w9 h9 s9 r9 => ⟨h9, ?_⟩))  -- 5.4: t7 := alloc
    refine ER.bar rfl rfl rfl rfl (fun w10 h10 => Stp.store (mo_sz hcl) rfl rfl (r9.ext h10) (ag_len (by rw [hcl]; rfl)) (mo_one hco.one) (fun w11 u11 r11 => ?_))  -- 5.5: tNone := store
    have e11 := ((h8.trans h9).trans h10).upd u11 h8.size
    refine ER.nil (fun w12 h12 => ?_)
    refine AQ.then ?_
    refine EC.seq ?_
    -- region 6  law.go:93
    refine EC.region (fun i => [1, 1, 2, 1].getD i 0) [0, 1, 2, 3] rfl ?_
    refine ER.sil rfl rfl rfl rfl (Sil.move rfl) ?_  -- 6.0: t38 := move
    refine ER.sil rfl rfl rfl rfl (Sil.lenR Try.underlying22 rfl (Mods.isS hms)) ?_  -- 6.1: t39 := call
    --  -- 6.2: t40 := makeSlice
    refine ER.st rfl rfl rfl rfl (fun wa ha => Stp.makeFull Try.underlying57 inf4 rfl rfl (by omega) hm (fun wb cells hb ob => ⟨hb, ?_⟩))
    have hwa := (((((((h1.trans h2).trans h3).trans h5).trans h6).trans h7).trans e11).trans h12).trans ha
    have hl := (hl6.ext ((h7.trans e11).trans h12)).ext ha
    have g7 := (r11.ext h12).ext ha
    rw [scopeOf_eq hk] at hl
    have hlm := hl.max
    refine ER.sil rfl rfl rfl rfl (Sil.assign rfl) ?_  -- 6.3: t8 := assign
    refine ER.nil (fun w13 h13 => ?_)
    refine AQ.then ?_
    refine EC.seq ?_
    refine EC.seq ?_
    -- region 7  law.go:94
    refine EC.region (fun i => [1].getD i 0) [0] rfl ?_
    refine ER.sil rfl rfl rfl rfl (Sil.assign rfl) ?_  -- 7.0: t9 := assign
    refine ER.nil (fun w14 h14 => ?_)
    refine AQ.then ?_
    refine EC.block ?_
    refine EC.loop (σ := Nat) (fun k => [(0, v), (5, .bool true), (6, v6), (7, ptr w8.heap.size), (8, (.slice (some ⟨wa.heap.size, 0, none⟩) ms.length ms.length)), (9, .int .i64 (k : Int))]) (fun k wr => Ext wa wr ∧ k ≤ ms.length ∧ Truths wr wa.heap.size 4 (.slice (some ⟨wa.heap.size, 0, none⟩) ms.length ms.length) ms.length (mayZ ms (moAt ms m)) k) (fun k => ms.length - k) 0 [0, 5, 6, 7, 8, 9] rfl ?_ (fun k wr hF => ?_)
    · exact ⟨((hb.trans h13).trans h14), Nat.zero_le _, cells, Ext.own ob (h13.trans h14), fun j h => absurd h (Nat.not_lt_zero j)⟩
    obtain ⟨hE, hk, hM⟩ := hF
    refine EC.seq ?_
    refine EC.seq ?_
    -- region 8  law.go:94
    refine EC.region (fun i => [1, 1, 1, 1].getD i 0) [0, 1, 2, 3] rfl ?_
    refine ER.sil rfl rfl rfl rfl (Sil.move rfl) ?_  -- 8.0: t41 := move
    refine ER.sil rfl rfl rfl rfl (Sil.move rfl) ?_  -- 8.1: t42 := move
    refine ER.sil rfl rfl rfl rfl (Sil.lenR Try.underlying22 rfl (Mods.isS hms)) ?_  -- 8.2: t43 := call
    refine ER.sil rfl rfl rfl rfl (Sil.lss rfl rfl) ?_  -- 8.3: t44 := binOp
    refine ER.nil (fun w15 h15 => ?_)
    refine AQ.then ?_
    refine EC.cond rfl (fun hb1 => ?_) (fun hb1 => ?_)  -- cond 1: t44
    ·
      have hlt : k < ms.length := by have := of_decide_eq_true hb1; omega
      refine EC.skip ?_
      refine AQ.then ?_
      refine EC.seq ?_
      refine EC.block ?_
      -- region 10  law.go:95
      refine EC.region (fun i => [1, 1, 1, 1, 1, 1, 0, 1, 1, 1, 0, 1, 1, 1, 1, 1, 0, 1, 1, 1, 1, 3].getD i 0) [0, 1, 2, 3, 4, 5, 6, 7, 8, 9, 10, 11, 12, 13, 14, 15, 16, 17, 18, 19, 20, 21] rfl ?_
      refine ER.sil rfl rfl rfl rfl (Sil.move rfl) ?_  -- 10.0: t47 := move
      refine ER.sil rfl rfl rfl rfl (Sil.move rfl) ?_  -- 10.1: t48 := move
      refine ER.sil rfl rfl rfl rfl (Sil.move rfl) ?_  -- 10.2: t49 := move
      refine ER.sil rfl rfl rfl rfl (Sil.move rfl) ?_  -- 10.3: t50 := move
      refine ER.sil rfl rfl rfl rfl (Sil.indexR Try.underlying22 inf56 rfl rfl (Mods.isE hms (by omega)) (by omega) (by omega)) ?_  -- 10.4: t51 := indexAddr
      refine ER.sil rfl rfl rfl rfl (Sil.fieldAddr Try.underlying56 rfl inf3 rfl) ?_  -- 10.5: t52 := fieldAddr
      refine ER.ex rfl rfl rfl rfl (Exa.load flat3 rfl (Mods.base (hms.ext (hwa.trans (hE.trans h15))) (hms.inR hlt))) ?_  -- 10.6: t53 := load
      refine ER.sil rfl rfl rfl rfl (Sil.geq rfl rfl) ?_  -- 10.7: t54 := binOp
      refine ER.sil rfl rfl rfl rfl (Sil.move rfl) ?_  -- 10.8: t55 := move
      refine ER.silG rfl rfl rfl rfl rfl rfl (fun hc => Sil.fieldAddr Try.underlying56 rfl inf4 rfl) ?_  -- 10.9: t56 := fieldAddr
      refine ER.exG rfl rfl rfl rfl rfl rfl (fun hc => Exa.load flat4 (congrArg some (sel_eq hc _)) ((g7.ext (hE.trans h15)).cell hco.goneC)) ?_  -- 10.10: t57 := load
      refine ER.silG rfl rfl rfl rfl rfl rfl (fun hc => Sil.move (congrArg some (sel_eq hc _))) ?_  -- 10.11: t58 := move
      refine ER.silGG rfl rfl rfl rfl rfl rfl (fun hp hc => Sil.move rfl) ?_  -- 10.12: t59 := move
      refine ER.silGG rfl rfl rfl rfl rfl rfl (fun hp hc => Sil.move rfl) ?_  -- 10.13: t60 := move
      refine ER.silGG rfl rfl rfl rfl rfl rfl (fun hp hc => Sil.indexR Try.underlying22 inf56 (congrArg some (sel_2 hp hc _)) (congrArg some (sel_2 hp hc _)) (Mods.isE hms (by omega)) (by omega) (by omega)) ?_  -- 10.14: t61 := indexAddr
      refine ER.silGG rfl rfl rfl rfl rfl rfl (fun hp hc => Sil.fieldAddr Try.underlying56 rfl inf4 (congrArg some (sel_2 hp hc _))) ?_  -- 10.15: t62 := fieldAddr
      refine ER.exGG rfl rfl rfl rfl rfl rfl (fun hp hc => Exa.load flat4 (congrArg some (sel_2 hp hc _)) (Mods.gone (hms.ext (hwa.trans (hE.trans h15))) (hms.inR hlt))) ?_  -- 10.16: t63 := load
      refine ER.silGG rfl rfl rfl rfl rfl rfl (fun hp hc => Sil.not (congrArg some (sel_2 hp hc _))) ?_  -- 10.17: t64 := unOp
      refine ER.silG rfl rfl rfl rfl rfl rfl (fun hc => Sil.pickOr (congrArg some (sel_eq hc _)) rfl (congrArg some (sel_in hc _ _))) ?_  -- 10.18: t65 := pick
      refine ER.sil rfl rfl rfl rfl (Sil.pickAnd rfl rfl rfl) ?_  -- 10.19: t66 := pick
      refine ER.sil rfl rfl rfl rfl (Sil.indexR Try.underlying57 inf4 rfl rfl (⟨_, _, _, rfl⟩) (by omega) (by omega)) ?_  -- 10.20: t67 := indexAddr
      --  -- 10.21: tNone := store
      obtain ⟨cells, ho, hcs⟩ := hM
      refine ER.bar rfl rfl rfl rfl (fun w16 h16 => Stp.storeOwn (by kernel_rfl) rfl rfl (Ext.own ho (h15.trans h16)) (c := k * 1) (by rw [ho.1]; omega) rfl rfl (fun w17 u17 o17 => ?_))
      have hx2 := ((hE.trans h15).trans h16).upd u17 (Nat.le_refl _)
      rw [Nat.mul_one] at o17
      have hM2 := Truths.set (f := (mayZ ms (moAt ms m))) hcs (by rw [ho.1]; omega) o17
      refine ER.nil (fun w18 h18 => ?_)
      refine AQ.blockNormal ?_
      refine AQ.then ?_
      -- region 9  law.go:94
      refine EC.region (fun i => [1, 1, 1].getD i 0) [0, 1, 2] rfl ?_
      refine ER.sil rfl rfl rfl rfl (Sil.move rfl) ?_  -- 9.0: t45 := move
      refine ER.sil rfl rfl rfl rfl (Sil.add rfl rfl) ?_  -- 9.1: t46 := binOp
      refine ER.sil rfl rfl rfl rfl (Sil.assign rfl) ?_  -- 9.2: t9 := assign
      refine ER.nil (fun w19 h19 => ?_)
      exact AQ.round (k + 1) [0, 5, 6, 7, 8, 9] (by rw [← wrap_succ hlt hm]; rfl) ⟨((hx2.trans h18).trans h19), hlt, (hM2.ext (h18.trans h19))⟩ (by omega)
    ·
      have hge : k = ms.length := by have := of_decide_eq_false hb1; omega
      subst hge
      refine EC.exit ?_
      refine AQ.thenExit ?_
      refine AQ.thenExit ?_
      refine AQ.blockHit ?_
      refine AQ.then ?_
      refine EC.seq ?_
      refine EC.seq ?_
      -- region 11  law.go:97
      refine EC.region (fun i => [1].getD i 0) [0] rfl ?_
      refine ER.sil rfl rfl rfl rfl (Sil.assign rfl) ?_  -- 11.0: t10 := assign
      refine ER.nil (fun w20 h20 => ?_)
      refine AQ.then ?_
      refine EC.block ?_
      refine EC.loop (σ := Nat) (fun i => [(0, v), (5, .bool true), (6, v6), (7, ptr w8.heap.size), (8, (.slice (some ⟨wa.heap.size, 0, none⟩) ms.length ms.length)), (10, .int .i64 (i : Int))]) (fun i wr => Ext wa wr ∧ i ≤ (scopeOf ms (moAt ms m)).length ∧ Truths wr wa.heap.size 4 (.slice (some ⟨wa.heap.size, 0, none⟩) ms.length ms.length) ms.length (mayZ ms (moAt ms m)) ms.length) (fun i => (scopeOf ms (moAt ms m)).length - i) 0 [0, 5, 6, 7, 8, 10] rfl ?_ (fun i wr hF => ?_)
      · exact ⟨((hE.trans h15).trans h20), Nat.zero_le _, hM.ext (h15.trans h20)⟩
      obtain ⟨hE, hi, hM⟩ := hF
      refine EC.seq ?_
      refine EC.seq ?_
      -- region 12  law.go:97
      refine EC.region (fun i => [1, 1, 1, 1].getD i 0) [0, 1, 2, 3] rfl ?_
      refine ER.sil rfl rfl rfl rfl (Sil.move rfl) ?_  -- 12.0: t68 := move
      refine ER.sil rfl rfl rfl rfl (Sil.move rfl) ?_  -- 12.1: t69 := move
      refine ER.sil rfl rfl rfl rfl (Sil.lenR Try.underlying28 rfl (Ints.isS hl)) ?_  -- 12.2: t70 := call
      refine ER.sil rfl rfl rfl rfl (Sil.lss rfl rfl) ?_  -- 12.3: t71 := binOp
      refine ER.nil (fun w21 h21 => ?_)
      refine AQ.then ?_
      refine EC.cond rfl (fun hb2 => ?_) (fun hb2 => ?_)  -- cond 2: t71
      ·
        have hlt : i < (scopeOf ms (moAt ms m)).length := by have := of_decide_eq_true hb2; omega
        have hin : InR ms (scopeOf ms (moAt ms m))[i] := scopeOf_in _ (List.getElem_mem hlt)
        refine EC.skip ?_
        refine AQ.then ?_
        refine EC.seq ?_
        refine EC.block ?_
        refine EC.seq ?_
        -- region 14  law.go:98
        refine EC.draw (fun i => [1, 1, 1, 0, 1, 1, 1, 1, 1, 0, 1, 1, 1, 1, 1, 1, 1, 1, 1, 0, 1, 0, 1, 1, 1, 1, 1, 1, 1, 1, 1, 0, 0, 1].getD i 0) [0, 1, 2, 3, 4, 5, 6, 7, 8, 9, 10, 11, 12, 13, 14, 15, 16, 17, 18, 19, 20, 21, 22, 23, 24, 25, 26, 27, 28, 29, 30, 31, 32, 33] (by kernel_rfl) (by kernel_rfl) ?_
        refine ER.sil rfl rfl rfl rfl (Sil.move rfl) ?_  -- 14.0: t74 := move
        refine ER.sil rfl rfl rfl rfl (Sil.move rfl) ?_  -- 14.1: t75 := move
        refine ER.sil rfl rfl rfl rfl (Sil.indexR Try.underlying28 inf3 rfl rfl (Ints.isE hl (by omega)) (by omega) (by omega)) ?_  -- 14.2: t76 := indexAddr
        refine ER.ex rfl rfl rfl rfl (Exa.load flat3 rfl (Ints.cell (hl.ext (hE.trans h21)) hlt)) ?_  -- 14.3: t77 := load
        refine ER.sil rfl rfl rfl rfl (Sil.lss rfl rfl) ?_  -- 14.4: t78 := binOp
        refine ER.sil rfl rfl rfl rfl (Sil.move rfl) ?_  -- 14.5: t79 := move
        refine ER.silG rfl rfl rfl rfl rfl rfl (fun hc => Sil.move rfl) ?_  -- 14.6: t80 := move
        refine ER.silG rfl rfl rfl rfl rfl rfl (fun hc => Sil.move rfl) ?_  -- 14.7: t81 := move
        refine ER.silG rfl rfl rfl rfl rfl rfl (fun hc => Sil.indexR Try.underlying28 inf3 (congrArg some (sel_eq hc _)) (congrArg some (sel_eq hc _)) (Ints.isE hl (by omega)) (by omega) (by omega)) ?_  -- 14.8: t82 := indexAddr
        refine ER.exG rfl rfl rfl rfl rfl rfl (fun hc => Exa.load flat3 (congrArg some (sel_eq hc _)) (Ints.cell (hl.ext (hE.trans h21)) hlt)) ?_  -- 14.9: t83 := load
        refine ER.silG rfl rfl rfl rfl rfl rfl (fun hc => Sil.move rfl) ?_  -- 14.10: t84 := move
        refine ER.silG rfl rfl rfl rfl rfl rfl (fun hc => Sil.lenR Try.underlying22 (congrArg some (sel_eq hc _)) (Mods.isS hms)) ?_  -- 14.11: t85 := call
        refine ER.silG rfl rfl rfl rfl rfl rfl (fun hc => Sil.geq (congrArg some (sel_eq hc _)) (congrArg some (sel_eq hc _))) ?_  -- 14.12: t86 := binOp
        refine ER.sil rfl rfl rfl rfl (Sil.pickOr rfl rfl rfl) ?_  -- 14.13: t87 := pick
        refine ER.sil rfl rfl rfl rfl (Sil.move rfl) ?_  -- 14.14: t88 := move
        refine ER.silG rfl rfl rfl rfl rfl rfl (fun hc => Sil.move rfl) ?_  -- 14.15: t89 := move
        refine ER.silG rfl rfl rfl rfl rfl rfl (fun hc => Sil.move rfl) ?_  -- 14.16: t90 := move
        refine ER.silG rfl rfl rfl rfl rfl rfl (fun hc => Sil.move rfl) ?_  -- 14.17: t91 := move
        refine ER.silG rfl rfl rfl rfl rfl rfl (fun hc => Sil.indexR Try.underlying28 inf3 (congrArg some (sel_eq hc _)) (congrArg some (sel_eq hc _)) (Ints.isE hl (by omega)) (by omega) (by omega)) ?_  -- 14.18: t92 := indexAddr
        refine ER.exG rfl rfl rfl rfl rfl rfl (fun hc => Exa.load flat3 (congrArg some (sel_eq hc _)) (Ints.cell (hl.ext (hE.trans h21)) hlt)) ?_  -- 14.19: t93 := load
        refine ER.silG rfl rfl rfl rfl rfl rfl (fun hc => Sil.indexR Try.underlying57 inf4 (congrArg some (sel_eq hc _)) (congrArg some (sel_eq hc _)) (⟨_, _, _, rfl⟩) (hin.1) (hin.2)) ?_  -- 14.20: t94 := indexAddr
        refine ER.exG rfl rfl rfl rfl rfl rfl (fun hc => Exa.load flat4 (congrArg some (sel_eq hc _)) (cell_ext h21 (hM.get (hin).1 (hin).2 (Nat.le_refl _)))) ?_  -- 14.21: t95 := load
        refine ER.silG rfl rfl rfl rfl rfl rfl (fun hc => Sil.not (congrArg some (sel_eq hc _))) ?_  -- 14.22: t96 := unOp
        refine ER.sil rfl rfl rfl rfl (Sil.pickOr rfl rfl rfl) ?_  -- 14.23: t97 := pick
        refine ER.sil rfl rfl rfl rfl (Sil.move rfl) ?_  -- 14.24: t98 := move
        refine ER.silG rfl rfl rfl rfl rfl rfl (fun hc => Sil.move rfl) ?_  -- 14.25: t99 := move
        refine ER.silG rfl rfl rfl rfl rfl rfl (fun hc => Sil.move rfl) ?_  -- 14.26: t100 := move
        refine ER.silG rfl rfl rfl rfl rfl rfl (fun hc => Sil.sliceHR Try.underlying28 inf3 (congrArg some (sel_eq hc _)) (congrArg some (sel_eq hc _)) (Ints.isS hl) (by omega) (by omega)) ?_  -- 14.27: t101 := slice
        rw [Int.toNat_natCast]
        refine ER.silG rfl rfl rfl rfl rfl rfl (fun hc => Sil.move rfl) ?_  -- 14.28: t102 := move
        refine ER.silG rfl rfl rfl rfl rfl rfl (fun hc => Sil.move rfl) ?_  -- 14.29: t103 := move
        refine ER.silG rfl rfl rfl rfl rfl rfl (fun hc => Sil.indexR Try.underlying28 inf3 (congrArg some (sel_eq hc _)) (congrArg some (sel_eq hc _)) (Ints.isE hl (by omega)) (by omega) (by omega)) ?_  -- 14.30: t104 := indexAddr
        refine ER.exG rfl rfl rfl rfl rfl rfl (fun hc => Exa.load flat3 (congrArg some (sel_eq hc _)) (Ints.cell (hl.ext (hE.trans h21)) hlt)) ?_  -- 14.31: t105 := load
        refine ER.exG rfl rfl rfl rfl rfl rfl (fun hc => Exa.call fok19 rfl (evs_cons (congrArg some (sel_eq hc _)) (evs_cons (congrArg some (sel_eq hc _)) evs_nil)) (fun wx hx => (in_any _ _ (scopeOf ms (moAt ms m))[i] wx (((hl.ext (hE.trans h21)).ext hx).take (i := i) (by omega))))) ?_  -- 14.32: t106 := call
        refine ER.sil rfl rfl rfl rfl (Sil.pickOr rfl rfl rfl) ?_  -- 14.33: t107 := pick
        refine ER.nil (fun w22 h22 => ?_)
        refine AQ.then ?_
        refine EC.cond rfl (fun hb3 => ?_) (fun hb3 => ?_)  -- cond 3: t107
        ·
          rw [decide_eq_false (by have := hin.1; omega), decide_eq_false (by have := hin.2; omega), show mayZ _ _ _ = true from scope_may (List.getElem_mem hlt), nodup_take (scopeOf_nodup ms _) hlt] at hb3
          cases hb3
        ·
          refine EC.skip ?_
          refine AQ.blockNormal ?_
          refine AQ.then ?_
          -- region 13  law.go:97
          refine EC.region (fun i => [1, 1, 1].getD i 0) [0, 1, 2] rfl ?_
          refine ER.sil rfl rfl rfl rfl (Sil.move rfl) ?_  -- 13.0: t72 := move
          refine ER.sil rfl rfl rfl rfl (Sil.add rfl rfl) ?_  -- 13.1: t73 := binOp
          refine ER.sil rfl rfl rfl rfl (Sil.assign rfl) ?_  -- 13.2: t10 := assign
          refine ER.nil (fun w23 h23 => ?_)
          exact AQ.round (i + 1) [0, 5, 6, 7, 8, 10] (by rw [← wrap_succ hlt hlm]; rfl) ⟨(((hE.trans h21).trans h22).trans h23), hlt, hM.ext ((h21.trans h22).trans h23)⟩ (by omega)
      ·
        refine EC.exit ?_
        refine AQ.thenExit ?_
        refine AQ.thenExit ?_
        refine AQ.blockHit ?_
        refine AQ.then ?_
        refine EC.seq ?_
        -- region 16  law.go:102
        refine EC.region (fun i => [1].getD i 0) [0] rfl ?_
        refine ER.sil rfl rfl rfl rfl (Sil.assign rfl) ?_  -- 16.0: t11 := assign
        refine ER.nil (fun w24 h24 => ?_)
        refine AQ.then ?_
        refine EC.seq ?_
        refine EC.seq ?_
        -- region 17  law.go:103
        refine EC.region (fun i => [1].getD i 0) [0] rfl ?_
        refine ER.sil rfl rfl rfl rfl (Sil.assign rfl) ?_  -- 17.0: t12 := assign
        refine ER.nil (fun w25 h25 => ?_)
        refine AQ.then ?_
        refine EC.block ?_
        refine EC.loop (σ := Nat) (fun k => [(0, v), (5, .bool true), (6, v6), (7, ptr w8.heap.size), (8, (.slice (some ⟨wa.heap.size, 0, none⟩) ms.length ms.length)), (11, .int .i64 ((nK ms (moAt ms m) k) : Int)), (12, .int .i64 (k : Int))]) (fun k wr => Ext wa wr ∧ k ≤ ms.length ∧ (k = 0 ∨ (moAt ms m).space = 0) ∧ Truths wr wa.heap.size 4 (.slice (some ⟨wa.heap.size, 0, none⟩) ms.length ms.length) ms.length (mayZ ms (moAt ms m)) ms.length) (fun k => ms.length - k) 0 [0, 5, 6, 7, 8, 11, 12] rfl ?_ (fun k wr hF => ?_)
        · exact ⟨(((hE.trans h21).trans h24).trans h25), Nat.zero_le _, .inl rfl, hM.ext ((h21.trans h24).trans h25)⟩
        obtain ⟨hE, hk, hz, hM⟩ := hF
        refine EC.seq ?_
        refine EC.seq ?_
        -- region 18  law.go:103
        refine EC.region (fun i => [1, 1, 1, 1, 1, 1, 0, 1, 1].getD i 0) [0, 1, 2, 3, 4, 5, 6, 7, 8] rfl ?_
        refine ER.sil rfl rfl rfl rfl (Sil.move rfl) ?_  -- 18.0: t108 := move
        refine ER.sil rfl rfl rfl rfl (Sil.move rfl) ?_  -- 18.1: t109 := move
        refine ER.sil rfl rfl rfl rfl (Sil.lenR Try.underlying22 rfl (Mods.isS hms)) ?_  -- 18.2: t110 := call
        refine ER.sil rfl rfl rfl rfl (Sil.lss rfl rfl) ?_  -- 18.3: t111 := binOp
        refine ER.sil rfl rfl rfl rfl (Sil.move rfl) ?_  -- 18.4: t112 := move
        refine ER.silG rfl rfl rfl rfl rfl rfl (fun hc => Sil.fieldAddr Try.underlying56 rfl inf3 rfl) ?_  -- 18.5: t113 := fieldAddr
        refine ER.exG rfl rfl rfl rfl rfl rfl (fun hc => Exa.load flat3 (congrArg some (sel_eq hc _)) ((g7.ext hE).cell hco.spaceC)) ?_  -- 18.6: t114 := load
        refine ER.silG rfl rfl rfl rfl rfl rfl (fun hc => Sil.eql (congrArg some (sel_eq hc _)) rfl) ?_  -- 18.7: t115 := binOp
        refine ER.sil rfl rfl rfl rfl (Sil.pickAnd rfl rfl rfl) ?_  -- 18.8: t116 := pick
        refine ER.nil (fun w26 h26 => ?_)
        refine AQ.then ?_
        refine EC.cond rfl (fun hb4 => ?_) (fun hb4 => ?_)  -- cond 4: t116
        ·
          have hlt : k < ms.length := by simp at hb4; omega
          have hsp : (moAt ms m).space = 0 := by simp at hb4; exact hb4.2
          refine EC.skip ?_
          refine AQ.then ?_
          refine EC.seq ?_
          refine EC.block ?_
          refine EC.seq ?_
          -- region 20  law.go:104
          refine EC.region (fun i => [1, 1, 1, 1, 0, 1, 1, 1, 1, 1, 1, 0, 1, 1, 1, 1, 1, 1, 0, 1].getD i 0) [0, 1, 2, 3, 4, 5, 6, 7, 8, 9, 10, 11, 12, 13, 14, 15, 16, 17, 18, 19] rfl ?_
          refine ER.sil rfl rfl rfl rfl (Sil.move rfl) ?_  -- 20.0: t119 := move
          refine ER.sil rfl rfl rfl rfl (Sil.move rfl) ?_  -- 20.1: t120 := move
          refine ER.sil rfl rfl rfl rfl (Sil.indexR Try.underlying22 inf56 rfl rfl (Mods.isE hms (by omega)) (by omega) (by omega)) ?_  -- 20.2: t121 := indexAddr
          refine ER.sil rfl rfl rfl rfl (Sil.fieldAddr Try.underlying56 rfl inf3 rfl) ?_  -- 20.3: t122 := fieldAddr
          refine ER.ex rfl rfl rfl rfl (Exa.load flat3 rfl (Mods.space (hms.ext (hwa.trans (hE.trans h26))) (hms.inR hlt))) ?_  -- 20.4: t123 := load
          refine ER.sil rfl rfl rfl rfl (Sil.eql rfl rfl) ?_  -- 20.5: t124 := binOp
          refine ER.sil rfl rfl rfl rfl (Sil.move rfl) ?_  -- 20.6: t125 := move
          refine ER.silG rfl rfl rfl rfl rfl rfl (fun hc => Sil.move rfl) ?_  -- 20.7: t126 := move
          refine ER.silG rfl rfl rfl rfl rfl rfl (fun hc => Sil.move rfl) ?_  -- 20.8: t127 := move
          refine ER.silG rfl rfl rfl rfl rfl rfl (fun hc => Sil.indexR Try.underlying22 inf56 (congrArg some (sel_eq hc _)) (congrArg some (sel_eq hc _)) (Mods.isE hms (by omega)) (by omega) (by omega)) ?_  -- 20.9: t128 := indexAddr
          refine ER.silG rfl rfl rfl rfl rfl rfl (fun hc => Sil.fieldAddr Try.underlying56 rfl inf3 (congrArg some (sel_eq hc _))) ?_  -- 20.10: t129 := fieldAddr
          refine ER.exG rfl rfl rfl rfl rfl rfl (fun hc => Exa.load flat3 (congrArg some (sel_eq hc _)) (Mods.root (hms.ext (hwa.trans (hE.trans h26))) (hms.inR hlt))) ?_  -- 20.11: t130 := load
          refine ER.silG rfl rfl rfl rfl rfl rfl (fun hc => Sil.eql (congrArg some (sel_eq hc _)) rfl) ?_  -- 20.12: t131 := binOp
          refine ER.sil rfl rfl rfl rfl (Sil.pickAnd rfl rfl rfl) ?_  -- 20.13: t132 := pick
          refine ER.sil rfl rfl rfl rfl (Sil.move rfl) ?_  -- 20.14: t133 := move
          refine ER.silG rfl rfl rfl rfl rfl rfl (fun hc => Sil.move rfl) ?_  -- 20.15: t134 := move
          refine ER.silG rfl rfl rfl rfl rfl rfl (fun hc => Sil.move rfl) ?_  -- 20.16: t135 := move
          refine ER.silG rfl rfl rfl rfl rfl rfl (fun hc => Sil.indexR Try.underlying57 inf4 (congrArg some (sel_eq hc _)) (congrArg some (sel_eq hc _)) (⟨_, _, _, rfl⟩) (by omega) (by omega)) ?_  -- 20.17: t136 := indexAddr
          refine ER.exG rfl rfl rfl rfl rfl rfl (fun hc => Exa.load flat4 (congrArg some (sel_eq hc _)) (cell_ext h26 (hM.get (z := (k : Int)) (by omega) (by omega) (Nat.le_refl _)))) ?_  -- 20.18: t137 := load
          refine ER.sil rfl rfl rfl rfl (Sil.pickAnd rfl rfl rfl) ?_  -- 20.19: t138 := pick
          refine ER.nil (fun w27 h27 => ?_)
          refine AQ.then ?_
          refine EC.cond rfl (fun hb5 => ?_) (fun hb5 => ?_)  -- cond 5: t138
          ·
            rw [Bool.and_eq_true] at hb5
            obtain ⟨hsl, hsv⟩ := scope_main hsp hlt hb5.1 hb5.2
            have hky := kept_yes (x := (moAt ms m)) hb5.1 hb5.2
            have hsl2 : (nK ms (moAt ms m) k) < (scopeOf ms (moAt ms m)).length := by rw [nK_eq hsp]; exact hsl
            have hsv2 : (scopeOf ms (moAt ms m))[(nK ms (moAt ms m) k)] = (k : Int) := by simp only [nK_eq hsp]; exact hsv
            have hn1 : (nK ms (moAt ms m) (k + 1)) = (nK ms (moAt ms m) k) + 1 := by rw [nK_eq hsp, nK_eq hsp, hky]; simp
            refine EC.seq ?_
            refine EC.seq ?_
            -- region 21  law.go:105
            refine EC.region (fun i => [1, 1, 1, 1, 1, 1, 1, 1, 0, 1, 1, 1].getD i 0) [0, 1, 2, 3, 4, 5, 6, 7, 8, 9, 10, 11] rfl ?_
            refine ER.sil rfl rfl rfl rfl (Sil.move rfl) ?_  -- 21.0: t139 := move
            refine ER.sil rfl rfl rfl rfl (Sil.move rfl) ?_  -- 21.1: t140 := move
            refine ER.sil rfl rfl rfl rfl (Sil.lenR Try.underlying28 rfl (Ints.isS hl)) ?_  -- 21.2: t141 := call
            refine ER.sil rfl rfl rfl rfl (Sil.geq rfl rfl) ?_  -- 21.3: t142 := binOp
            refine ER.sil rfl rfl rfl rfl (Sil.move rfl) ?_  -- 21.4: t143 := move
            refine ER.silG rfl rfl rfl rfl rfl rfl (fun hc => Sil.move rfl) ?_  -- 21.5: t144 := move
            refine ER.silG rfl rfl rfl rfl rfl rfl (fun hc => Sil.move rfl) ?_  -- 21.6: t145 := move
            refine ER.silG rfl rfl rfl rfl rfl rfl (fun hc => Sil.indexR Try.underlying28 inf3 (congrArg some (sel_eq hc _)) (congrArg some (sel_eq hc _)) (Ints.isE hl (by omega)) (by omega) (by omega)) ?_  -- 21.7: t146 := indexAddr
            refine ER.exG rfl rfl rfl rfl rfl rfl (fun hc => Exa.load flat3 (congrArg some (sel_eq hc _)) (Ints.cell (hl.ext ((hE.trans h26).trans h27)) hsl2)) ?_  -- 21.8: t147 := load
            refine ER.silG rfl rfl rfl rfl rfl rfl (fun hc => Sil.move rfl) ?_  -- 21.9: t148 := move
            refine ER.silG rfl rfl rfl rfl rfl rfl (fun hc => Sil.neq (congrArg some (sel_eq hc _)) (congrArg some (sel_eq hc _))) ?_  -- 21.10: t149 := binOp
            refine ER.sil rfl rfl rfl rfl (Sil.pickOr rfl rfl rfl) ?_  -- 21.11: t150 := pick
            refine ER.nil (fun w28 h28 => ?_)
            refine AQ.then ?_
            refine EC.cond rfl (fun hb6 => ?_) (fun hb6 => ?_)  -- cond 6: t150
            ·
              rw [hsv2, bne_self_eq_false, decide_eq_false (by omega)] at hb6
              cases hb6
            ·
              refine EC.skip ?_
              refine AQ.then ?_
              -- region 23  law.go:108
              refine EC.region (fun i => [1, 1, 1].getD i 0) [0, 1, 2] rfl ?_
              refine ER.sil rfl rfl rfl rfl (Sil.move rfl) ?_  -- 23.0: t151 := move
              refine ER.sil rfl rfl rfl rfl (Sil.add rfl rfl) ?_  -- 23.1: t152 := binOp
              refine ER.sil rfl rfl rfl rfl (Sil.assign rfl) ?_  -- 23.2: t11 := assign
              refine ER.nil (fun w29 h29 => ?_)
              refine AQ.blockNormal ?_
              refine AQ.then ?_
              -- region 19  law.go:103
              refine EC.region (fun i => [1, 1, 1].getD i 0) [0, 1, 2] rfl ?_
              refine ER.sil rfl rfl rfl rfl (Sil.move rfl) ?_  -- 19.0: t117 := move
              refine ER.sil rfl rfl rfl rfl (Sil.add rfl rfl) ?_  -- 19.1: t118 := binOp
              refine ER.sil rfl rfl rfl rfl (Sil.assign rfl) ?_  -- 19.2: t12 := assign
              refine ER.nil (fun w30 h30 => ?_)
              exact AQ.round (k + 1) [0, 5, 6, 7, 8, 11, 12] (by rw [hn1, ← wrap_succ hlt hm, ← wrap_succ hsl2 hlm]; rfl) ⟨(((((hE.trans h26).trans h27).trans h28).trans h29).trans h30), hlt, .inr hsp, hM.ext ((((h26.trans h27).trans h28).trans h29).trans h30)⟩ (by omega)
          ·
            have hn1 : (nK ms (moAt ms m) (k + 1)) = (nK ms (moAt ms m) k) := by
              rw [nK_eq hsp, nK_eq hsp, kept_no]
              rintro ⟨h1, h2⟩
              rw [Bool.and_eq_false_iff] at hb5
              rcases hb5 with h5 | h5
              · rw [show isMain _ = false from h5] at h1; cases h1
              · rw [show may _ _ = false from h5] at h2; cases h2
            refine EC.skip ?_
            refine AQ.blockNormal ?_
            refine AQ.then ?_
            -- region 19  law.go:103
            refine EC.region (fun i => [1, 1, 1].getD i 0) [0, 1, 2] rfl ?_
            refine ER.sil rfl rfl rfl rfl (Sil.move rfl) ?_  -- 19.0: t117 := move
            refine ER.sil rfl rfl rfl rfl (Sil.add rfl rfl) ?_  -- 19.1: t118 := binOp
            refine ER.sil rfl rfl rfl rfl (Sil.assign rfl) ?_  -- 19.2: t12 := assign
            refine ER.nil (fun w31 h31 => ?_)
            exact AQ.round (k + 1) [0, 5, 6, 7, 8, 11, 12] (by rw [hn1, ← wrap_succ hlt hm]; rfl) ⟨(((hE.trans h26).trans h27).trans h31), hlt, .inr hsp, hM.ext ((h26.trans h27).trans h31)⟩ (by omega)
        ·
          have hnn : (nK ms (moAt ms m) k) = (headOf ms (moAt ms m)).length := by
            by_cases hs : (moAt ms m).space = 0
            · have hkl : k = ms.length := by rw [hs] at hb4; simp at hb4; omega
              rw [nK_eq hs, head_main hs, hkl]
            · rw [nK_not hs, head_not hs]; rfl
          refine EC.exit ?_
          refine AQ.thenExit ?_
          refine AQ.thenExit ?_
          refine AQ.blockHit ?_
          refine AQ.then ?_
          refine EC.seq ?_
          refine EC.seq ?_
          -- region 24  law.go:111
          refine EC.region (fun i => [1, 0, 1, 1, 1, 0, 1, 1].getD i 0) [0, 1, 2, 3, 4, 5, 6, 7] rfl ?_
          refine ER.sil rfl rfl rfl rfl (Sil.fieldAddr Try.underlying56 rfl inf3 rfl) ?_  -- 24.0: t153 := fieldAddr
          refine ER.ex rfl rfl rfl rfl (Exa.load flat3 rfl ((g7.ext (hE.trans h26)).cell hco.spaceC)) ?_  -- 24.1: t154 := load
          refine ER.sil rfl rfl rfl rfl (Sil.eql rfl rfl) ?_  -- 24.2: t155 := binOp
          refine ER.sil rfl rfl rfl rfl (Sil.move rfl) ?_  -- 24.3: t156 := move
          refine ER.silG rfl rfl rfl rfl rfl rfl (fun hc => Sil.fieldAddr Try.underlying56 rfl inf3 rfl) ?_  -- 24.4: t157 := fieldAddr
          refine ER.exG rfl rfl rfl rfl rfl rfl (fun hc => Exa.load flat3 (congrArg some (sel_eq hc _)) ((g7.ext (hE.trans h26)).cell hco.rootC)) ?_  -- 24.5: t158 := load
          refine ER.silG rfl rfl rfl rfl rfl rfl (fun hc => Sil.eql (congrArg some (sel_eq hc _)) rfl) ?_  -- 24.6: t159 := binOp
          refine ER.sil rfl rfl rfl rfl (Sil.pickAnd rfl rfl rfl) ?_  -- 24.7: t160 := pick
          refine ER.nil (fun w32 h32 => ?_)
          refine AQ.then ?_
          refine EC.cond rfl (fun hb7 => ?_) (fun hb7 => ?_)  -- cond 7: t160
          ·
            have hcf : hasClo (moAt ms m) = false := by simp at hb7; simp [hasClo, hb7]
            refine EC.seq ?_
            -- region 25  law.go:112
            refine EC.region (fun i => [1, 1, 1, 1, 1, 1, 1, 1].getD i 0) [0, 1, 2, 3, 4, 5, 6, 7] rfl ?_
            refine ER.sil rfl rfl rfl rfl (Sil.move rfl) ?_  -- 25.0: t161 := move
            refine ER.sil rfl rfl rfl rfl (Sil.move rfl) ?_  -- 25.1: t162 := move
            refine ER.silG rfl rfl rfl rfl rfl rfl (fun hc => Sil.move rfl) ?_  -- 25.2: t163 := move
            refine ER.silG rfl rfl rfl rfl rfl rfl (fun hc => Sil.move rfl) ?_  -- 25.3: t164 := move
            refine ER.silG rfl rfl rfl rfl rfl rfl (fun hc => Sil.lenR Try.underlying28 (congrArg some (sel_eq hc _)) (Ints.isS hl)) ?_  -- 25.4: t165 := call
            refine ER.silG rfl rfl rfl rfl rfl rfl (fun hc => Sil.eql (congrArg some (sel_eq hc _)) (congrArg some (sel_eq hc _))) ?_  -- 25.5: t166 := binOp
            refine ER.sil rfl rfl rfl rfl (Sil.pickAnd rfl rfl rfl) ?_  -- 25.6: t167 := pick
            refine ER.sil rfl rfl rfl rfl (Sil.assign rfl) ?_  -- 25.7: t4 := assign
            refine ER.nil (fun w33 h33 => ?_)
            refine AQ.then ?_
            refine EC.ret ?_
            refine AQ.thenRet ?_
            refine AQ.ret1 Try.results4 rfl ?_
            exact ⟨by rw [hnn, scope_only hcf]; simp, hwa.trans (((hE.trans h26).trans h32).trans h33)⟩
          ·
            have hcf : hasClo (moAt ms m) = true := by
              simp at hb7
              simp only [hasClo, Bool.or_eq_true, bne_iff_ne, ne_eq]
              by_cases hs : (moAt ms m).space = 0
              · exact .inr (hb7 hs)
              · exact .inl hs
            refine EC.skip ?_
            refine AQ.then ?_
            refine EC.seq ?_
            refine EC.seq ?_
            -- region 26  law.go:114
            refine EC.region (fun i => [1, 0, 1, 1, 1, 0, 1, 1, 1, 1, 1, 1, 1, 0, 1, 0, 1, 1, 1, 1, 0, 0, 1, 1].getD i 0) [0, 1, 2, 3, 4, 5, 6, 7, 8, 9, 10, 11, 12, 13, 14, 15, 16, 17, 18, 19, 20, 21, 22, 23] rfl ?_
            refine ER.sil rfl rfl rfl rfl (Sil.fieldAddr Try.underlying56 rfl inf3 rfl) ?_  -- 26.0: t168 := fieldAddr
            refine ER.ex rfl rfl rfl rfl (Exa.load flat3 rfl ((g7.ext ((hE.trans h26).trans h32)).cell hco.rootC)) ?_  -- 26.1: t169 := load
            refine ER.sil rfl rfl rfl rfl (Sil.geq rfl rfl) ?_  -- 26.2: t170 := binOp
            refine ER.sil rfl rfl rfl rfl (Sil.move rfl) ?_  -- 26.3: t171 := move
            refine ER.silG rfl rfl rfl rfl rfl rfl (fun hc => Sil.fieldAddr Try.underlying56 rfl inf3 rfl) ?_  -- 26.4: t172 := fieldAddr
            refine ER.exG rfl rfl rfl rfl rfl rfl (fun hc => Exa.load flat3 (congrArg some (sel_eq hc _)) ((g7.ext ((hE.trans h26).trans h32)).cell hco.rootC)) ?_  -- 26.5: t173 := load
            refine ER.silG rfl rfl rfl rfl rfl rfl (fun hc => Sil.move rfl) ?_  -- 26.6: t174 := move
            refine ER.silG rfl rfl rfl rfl rfl rfl (fun hc => Sil.lenR Try.underlying22 (congrArg some (sel_eq hc _)) (Mods.isS hms)) ?_  -- 26.7: t175 := call
            refine ER.silG rfl rfl rfl rfl rfl rfl (fun hc => Sil.lss (congrArg some (sel_eq hc _)) (congrArg some (sel_eq hc _))) ?_  -- 26.8: t176 := binOp
            refine ER.sil rfl rfl rfl rfl (Sil.pickAnd rfl rfl rfl) ?_  -- 26.9: t177 := pick
            refine ER.sil rfl rfl rfl rfl (Sil.move rfl) ?_  -- 26.10: t178 := move
            refine ER.silG rfl rfl rfl rfl rfl rfl (fun hc => Sil.move rfl) ?_  -- 26.11: t179 := move
            refine ER.silG rfl rfl rfl rfl rfl rfl (fun hc => Sil.fieldAddr Try.underlying56 rfl inf3 rfl) ?_  -- 26.12: t180 := fieldAddr
            refine ER.exG rfl rfl rfl rfl rfl rfl (fun hc => Exa.load flat3 (congrArg some (sel_eq hc _)) ((g7.ext ((hE.trans h26).trans h32)).cell hco.rootC)) ?_  -- 26.13: t181 := load
            refine ER.silG rfl rfl rfl rfl rfl rfl (fun hc => Sil.indexR Try.underlying57 inf4 (congrArg some (sel_eq hc _)) (congrArg some (sel_eq hc _)) (⟨_, _, _, rfl⟩) ((inR_of hc).1) ((inR_of hc).2)) ?_  -- 26.14: t182 := indexAddr
            refine ER.exG rfl rfl rfl rfl rfl rfl (fun hc => Exa.load flat4 (congrArg some (sel_eq hc _)) (cell_ext (h26.trans h32) (hM.get (inR_of hc).1 (inR_of hc).2 (Nat.le_refl _)))) ?_  -- 26.15: t183 := load
            refine ER.sil rfl rfl rfl rfl (Sil.pickAnd rfl rfl rfl) ?_  -- 26.16: t184 := pick
            refine ER.sil rfl rfl rfl rfl (Sil.move rfl) ?_  -- 26.17: t185 := move
            refine ER.silG rfl rfl rfl rfl rfl rfl (fun hc => Sil.move rfl) ?_  -- 26.18: t186 := move
            refine ER.silG rfl rfl rfl rfl rfl rfl (fun hc => Sil.fieldAddr Try.underlying56 rfl inf3 rfl) ?_  -- 26.19: t187 := fieldAddr
            refine ER.exG rfl rfl rfl rfl rfl rfl (fun hc => Exa.load flat3 (congrArg some (sel_eq hc _)) ((g7.ext ((hE.trans h26).trans h32)).cell hco.rootC)) ?_  -- 26.20: t188 := load
            refine ER.exG rfl rfl rfl rfl rfl rfl (fun hc => Exa.call fok19 rfl (evs_cons (congrArg some (sel_eq hc _)) (evs_cons (congrArg some (sel_eq hc _)) evs_nil)) (fun wx hx => (in_any _ _ (moAt ms m).root wx ((hl.ext ((hE.trans h26).trans h32)).ext hx)))) ?_  -- 26.21: t189 := call
            refine ER.silG rfl rfl rfl rfl rfl rfl (fun hc => Sil.not (congrArg some (sel_eq hc _))) ?_  -- 26.22: t190 := unOp
            refine ER.sil rfl rfl rfl rfl (Sil.pickAnd rfl rfl rfl) ?_  -- 26.23: t191 := pick
            refine ER.nil (fun w34 h34 => ?_)
            refine AQ.then ?_
            refine EC.cond rfl (fun hb8 => ?_) (fun hb8 => ?_)  -- cond 8: t191
            ·
              simp only [Bool.and_eq_true, Bool.not_eq_true'] at hb8
              obtain ⟨⟨⟨a1, a2⟩, a3⟩, a4⟩ := hb8
              have hr : InR ms (moAt ms m).root := ⟨of_decide_eq_true a1, of_decide_eq_true a2⟩
              have hz := scope_has hcf (cloL_root hr) a3
              unfold hasI at a4
              rw [decide_eq_true hz] at a4
              cases a4
            ·
              refine EC.skip ?_
              refine AQ.then ?_
              refine EC.seq ?_
              refine EC.seq ?_
              -- region 28  law.go:117
              refine EC.region (fun i => [1].getD i 0) [0] rfl ?_
              refine ER.sil rfl rfl rfl rfl (Sil.assign rfl) ?_  -- 28.0: t13 := assign
              refine ER.nil (fun w35 h35 => ?_)
              refine AQ.then ?_
              refine EC.block ?_
              refine EC.loop (σ := Nat) (fun i => [(0, v), (5, .bool true), (6, v6), (7, ptr w8.heap.size), (8, (.slice (some ⟨wa.heap.size, 0, none⟩) ms.length ms.length)), (11, .int .i64 ((headOf ms (moAt ms m)).length : Int)), (13, .int .i64 (i : Int))]) (fun i wr => Ext wa wr ∧ i ≤ (scopeOf ms (moAt ms m)).length ∧ Truths wr wa.heap.size 4 (.slice (some ⟨wa.heap.size, 0, none⟩) ms.length ms.length) ms.length (mayZ ms (moAt ms m)) ms.length) (fun i => (scopeOf ms (moAt ms m)).length - i) 0 [0, 5, 6, 7, 8, 11, 13] (by rw [hnn]; rfl) ?_ (fun i wr hF => ?_)
              · exact ⟨((((hE.trans h26).trans h32).trans h34).trans h35), Nat.zero_le _, hM.ext (((h26.trans h32).trans h34).trans h35)⟩
              obtain ⟨hE, hi, hM⟩ := hF
              have hE0 := hE
              have hM0 := hM
              refine EC.seq ?_
              refine EC.seq ?_
              -- region 29  law.go:117
              refine EC.region (fun i => [1, 1, 1, 1].getD i 0) [0, 1, 2, 3] rfl ?_
              refine ER.sil rfl rfl rfl rfl (Sil.move rfl) ?_  -- 29.0: t192 := move
              refine ER.sil rfl rfl rfl rfl (Sil.move rfl) ?_  -- 29.1: t193 := move
              refine ER.sil rfl rfl rfl rfl (Sil.lenR Try.underlying28 rfl (Ints.isS hl)) ?_  -- 29.2: t194 := call
              refine ER.sil rfl rfl rfl rfl (Sil.lss rfl rfl) ?_  -- 29.3: t195 := binOp
              refine ER.nil (fun w36 h36 => ?_)
              refine AQ.then ?_
              refine EC.cond rfl (fun hb9 => ?_) (fun hb9 => ?_)  -- cond 9: t195
              ·
                have hlt : i < (scopeOf ms (moAt ms m)).length := by have := of_decide_eq_true hb9; omega
                have hin : InR ms (scopeOf ms (moAt ms m))[i] := scopeOf_in _ (List.getElem_mem hlt)
                obtain ⟨nv, hnv, hns⟩ := hms.needs hin
                have hnm := hns.max
                refine EC.skip ?_
                refine AQ.then ?_
                refine EC.seq ?_
                refine EC.block ?_
                refine EC.seq ?_
                -- region 31  law.go:118
                refine EC.region (fun i => [1].getD i 0) [0] rfl ?_
                refine ER.sil rfl rfl rfl rfl (Sil.assign rfl) ?_  -- 31.0: t14 := assign
                refine ER.nil (fun w37 h37 => ?_)
                refine AQ.then ?_
                refine EC.block ?_
                refine EC.loop (σ := Nat) (fun k => [(0, v), (5, .bool true), (6, v6), (7, ptr w8.heap.size), (8, (.slice (some ⟨wa.heap.size, 0, none⟩) ms.length ms.length)), (11, .int .i64 ((headOf ms (moAt ms m)).length : Int)), (13, .int .i64 (i : Int)), (14, .int .i64 (k : Int))]) (fun k wi => Ext wa wi ∧ k ≤ (moAt ms (scopeOf ms (moAt ms m))[i]).needs.length ∧ Truths wi wa.heap.size 4 (.slice (some ⟨wa.heap.size, 0, none⟩) ms.length ms.length) ms.length (mayZ ms (moAt ms m)) ms.length) (fun k => (moAt ms (scopeOf ms (moAt ms m))[i]).needs.length - k) 0 [0, 5, 6, 7, 8, 11, 13, 14] rfl ?_ (fun k wi hF => ?_)
                · exact ⟨((hE.trans h36).trans h37), Nat.zero_le _, hM.ext (h36.trans h37)⟩
                obtain ⟨hE, hk, hM⟩ := hF
                refine EC.seq ?_
                refine EC.seq ?_
                -- region 32  law.go:118
                refine EC.region (fun i => [1, 1, 1, 1, 1, 0, 1, 1, 0, 1, 1, 1, 1, 1, 1, 1].getD i 0) [0, 1, 2, 3, 4, 5, 6, 7, 8, 9, 10, 11, 12, 13, 14, 15] rfl ?_
                refine ER.sil rfl rfl rfl rfl (Sil.move rfl) ?_  -- 32.0: t198 := move
                refine ER.sil rfl rfl rfl rfl (Sil.move rfl) ?_  -- 32.1: t199 := move
                refine ER.sil rfl rfl rfl rfl (Sil.move rfl) ?_  -- 32.2: t200 := move
                refine ER.sil rfl rfl rfl rfl (Sil.move rfl) ?_  -- 32.3: t201 := move
                refine ER.sil rfl rfl rfl rfl (Sil.indexR Try.underlying28 inf3 rfl rfl (Ints.isE hl (by omega)) (by omega) (by omega)) ?_  -- 32.4: t202 := indexAddr
                refine ER.ex rfl rfl rfl rfl (Exa.load flat3 rfl (Ints.cell (hl.ext hE) hlt)) ?_  -- 32.5: t203 := load
                refine ER.sil rfl rfl rfl rfl (Sil.indexR Try.underlying22 inf56 rfl rfl (Mods.isE hms (by have := hin.1; have := hin.2; omega)) (hin.1) (hin.2)) ?_  -- 32.6: t204 := indexAddr
                refine ER.sil rfl rfl rfl rfl (Sil.fieldAddr Try.underlying56 rfl inf28 rfl) ?_  -- 32.7: t205 := fieldAddr
                refine ER.ex rfl rfl rfl rfl (Exa.load flat28 rfl (cell_ext (hwa.trans hE) hnv)) ?_  -- 32.8: t206 := load
                refine ER.sil rfl rfl rfl rfl (Sil.lenR Try.underlying28 rfl (Ints.isS hns)) ?_  -- 32.9: t207 := call
                refine ER.sil rfl rfl rfl rfl (Sil.lss rfl rfl) ?_  -- 32.10: t208 := binOp
                refine ER.sil rfl rfl rfl rfl (Sil.move rfl) ?_  -- 32.11: t209 := move
                refine ER.silG rfl rfl rfl rfl rfl rfl (fun hc => Sil.move rfl) ?_  -- 32.12: t210 := move
                refine ER.silG rfl rfl rfl rfl rfl rfl (fun hc => Sil.move rfl) ?_  -- 32.13: t211 := move
                refine ER.silG rfl rfl rfl rfl rfl rfl (fun hc => Sil.geq (congrArg some (sel_eq hc _)) (congrArg some (sel_eq hc _))) ?_  -- 32.14: t212 := binOp
                refine ER.sil rfl rfl rfl rfl (Sil.pickAnd rfl rfl rfl) ?_  -- 32.15: t213 := pick
                refine ER.nil (fun w38 h38 => ?_)
                refine AQ.then ?_
                refine EC.cond rfl (fun hb10 => ?_) (fun hb10 => ?_)  -- cond 10: t213
                ·
                  have hltk : k < (moAt ms (scopeOf ms (moAt ms m))[i]).needs.length := by simp at hb10; omega
                  have hhi : (headOf ms (moAt ms m)).length ≤ i := by simp at hb10; omega
                  refine EC.skip ?_
                  refine AQ.then ?_
                  refine EC.seq ?_
                  refine EC.block ?_
                  refine EC.seq ?_
                  -- region 34  law.go:119
                  refine EC.region (fun i => [1, 1, 1, 1, 0, 1, 1, 0, 1, 1, 0, 1].getD i 0) [0, 1, 2, 3, 4, 5, 6, 7, 8, 9, 10, 11] rfl ?_
                  refine ER.sil rfl rfl rfl rfl (Sil.move rfl) ?_  -- 34.0: t216 := move
                  refine ER.sil rfl rfl rfl rfl (Sil.move rfl) ?_  -- 34.1: t217 := move
                  refine ER.sil rfl rfl rfl rfl (Sil.move rfl) ?_  -- 34.2: t218 := move
                  refine ER.sil rfl rfl rfl rfl (Sil.indexR Try.underlying28 inf3 rfl rfl (Ints.isE hl (by omega)) (by omega) (by omega)) ?_  -- 34.3: t219 := indexAddr
                  refine ER.ex rfl rfl rfl rfl (Exa.load flat3 rfl (Ints.cell (hl.ext (hE.trans h38)) hlt)) ?_  -- 34.4: t220 := load
                  refine ER.sil rfl rfl rfl rfl (Sil.indexR Try.underlying22 inf56 rfl rfl (Mods.isE hms (by have := hin.1; have := hin.2; omega)) (hin.1) (hin.2)) ?_  -- 34.5: t221 := indexAddr
                  refine ER.sil rfl rfl rfl rfl (Sil.fieldAddr Try.underlying56 rfl inf28 rfl) ?_  -- 34.6: t222 := fieldAddr
                  refine ER.ex rfl rfl rfl rfl (Exa.load flat28 rfl (cell_ext (hwa.trans (hE.trans h38)) hnv)) ?_  -- 34.7: t223 := load
                  refine ER.sil rfl rfl rfl rfl (Sil.move rfl) ?_  -- 34.8: t224 := move
                  refine ER.sil rfl rfl rfl rfl (Sil.indexR Try.underlying28 inf3 rfl rfl (Ints.isE hns (by omega)) (by omega) (by omega)) ?_  -- 34.9: t225 := indexAddr
                  refine ER.ex rfl rfl rfl rfl (Exa.load flat3 rfl (Ints.cell (hns.ext (hwa.trans (hE.trans h38))) hltk)) ?_  -- 34.10: t226 := load
                  refine ER.sil rfl rfl rfl rfl (Sil.assign rfl) ?_  -- 34.11: t15 := assign
                  refine ER.nil (fun w39 h39 => ?_)
                  refine AQ.then ?_
                  refine EC.seq ?_
                  -- region 35  law.go:120
                  refine EC.region (fun i => [1, 1, 1, 1, 1, 1, 1, 1, 1, 1, 1, 1, 0, 1, 1, 1, 1, 0, 1, 1].getD i 0) [0, 1, 2, 3, 4, 5, 6, 7, 8, 9, 10, 11, 12, 13, 14, 15, 16, 17, 18, 19] rfl ?_
                  refine ER.sil rfl rfl rfl rfl (Sil.move rfl) ?_  -- 35.0: t227 := move
                  refine ER.sil rfl rfl rfl rfl (Sil.geq rfl rfl) ?_  -- 35.1: t228 := binOp
                  refine ER.sil rfl rfl rfl rfl (Sil.move rfl) ?_  -- 35.2: t229 := move
                  refine ER.silG rfl rfl rfl rfl rfl rfl (fun hc => Sil.move rfl) ?_  -- 35.3: t230 := move
                  refine ER.silG rfl rfl rfl rfl rfl rfl (fun hc => Sil.move rfl) ?_  -- 35.4: t231 := move
                  refine ER.silG rfl rfl rfl rfl rfl rfl (fun hc => Sil.lenR Try.underlying22 (congrArg some (sel_eq hc _)) (Mods.isS hms)) ?_  -- 35.5: t232 := call
                  refine ER.silG rfl rfl rfl rfl rfl rfl (fun hc => Sil.lss (congrArg some (sel_eq hc _)) (congrArg some (sel_eq hc _))) ?_  -- 35.6: t233 := binOp
                  refine ER.sil rfl rfl rfl rfl (Sil.pickAnd rfl rfl rfl) ?_  -- 35.7: t234 := pick
                  refine ER.sil rfl rfl rfl rfl (Sil.move rfl) ?_  -- 35.8: t235 := move
                  refine ER.silG rfl rfl rfl rfl rfl rfl (fun hc => Sil.move rfl) ?_  -- 35.9: t236 := move
                  refine ER.silG rfl rfl rfl rfl rfl rfl (fun hc => Sil.move rfl) ?_  -- 35.10: t237 := move
                  refine ER.silG rfl rfl rfl rfl rfl rfl (fun hc => Sil.indexR Try.underlying57 inf4 (congrArg some (sel_eq hc _)) (congrArg some (sel_eq hc _)) (⟨_, _, _, rfl⟩) ((inR_of hc).1) ((inR_of hc).2)) ?_  -- 35.11: t238 := indexAddr
                  refine ER.exG rfl rfl rfl rfl rfl rfl (fun hc => Exa.load flat4 (congrArg some (sel_eq hc _)) (cell_ext (h38.trans h39) (hM.get (inR_of hc).1 (inR_of hc).2 (Nat.le_refl _)))) ?_  -- 35.12: t239 := load
                  refine ER.sil rfl rfl rfl rfl (Sil.pickAnd rfl rfl rfl) ?_  -- 35.13: t240 := pick
                  refine ER.sil rfl rfl rfl rfl (Sil.move rfl) ?_  -- 35.14: t241 := move
                  refine ER.silG rfl rfl rfl rfl rfl rfl (fun hc => Sil.move rfl) ?_  -- 35.15: t242 := move
                  refine ER.silG rfl rfl rfl rfl rfl rfl (fun hc => Sil.move rfl) ?_  -- 35.16: t243 := move
                  refine ER.exG rfl rfl rfl rfl rfl rfl (fun hc => Exa.call fok19 rfl (evs_cons (congrArg some (sel_eq hc _)) (evs_cons (congrArg some (sel_eq hc _)) evs_nil)) (fun wx hx => (in_any _ _ (moAt ms (scopeOf ms (moAt ms m))[i]).needs[k] wx ((hl.ext ((hE.trans h38).trans h39)).ext hx)))) ?_  -- 35.17: t244 := call
                  refine ER.silG rfl rfl rfl rfl rfl rfl (fun hc => Sil.not (congrArg some (sel_eq hc _))) ?_  -- 35.18: t245 := unOp
                  refine ER.sil rfl rfl rfl rfl (Sil.pickAnd rfl rfl rfl) ?_  -- 35.19: t246 := pick
                  refine ER.nil (fun w40 h40 => ?_)
                  refine AQ.then ?_
                  refine EC.cond rfl (fun hb11 => ?_) (fun hb11 => ?_)  -- cond 11: t246
                  ·
                    simp only [Bool.and_eq_true, Bool.not_eq_true'] at hb11
                    obtain ⟨⟨⟨a1, a2⟩, a3⟩, a4⟩ := hb11
                    have hr : InR ms (moAt ms (scopeOf ms (moAt ms m))[i]).needs[k] := ⟨of_decide_eq_true a1, of_decide_eq_true a2⟩
                    have hz := scope_has hcf (cloL_closed (scope_tail hlt hhi) (List.getElem_mem hltk) hr) a3
                    unfold hasI at a4
                    rw [decide_eq_true hz] at a4
                    cases a4
                  ·
                    refine EC.skip ?_
                    refine AQ.blockNormal ?_
                    refine AQ.then ?_
                    -- region 33  law.go:118
                    refine EC.region (fun i => [1, 1, 1].getD i 0) [0, 1, 2] rfl ?_
                    refine ER.sil rfl rfl rfl rfl (Sil.move rfl) ?_  -- 33.0: t214 := move
                    refine ER.sil rfl rfl rfl rfl (Sil.add rfl rfl) ?_  -- 33.1: t215 := binOp
                    refine ER.sil rfl rfl rfl rfl (Sil.assign rfl) ?_  -- 33.2: t14 := assign
                    refine ER.nil (fun w41 h41 => ?_)
                    exact AQ.round (k + 1) [0, 5, 6, 7, 8, 11, 13, 14] (by rw [← wrap_succ hltk hnm]; rfl) ⟨((((hE.trans h38).trans h39).trans h40).trans h41), hltk, hM.ext (((h38.trans h39).trans h40).trans h41)⟩ (by omega)
                ·
                  refine EC.exit ?_
                  refine AQ.thenExit ?_
                  refine AQ.thenExit ?_
                  refine AQ.blockHit ?_
                  refine AQ.blockNormal ?_
                  refine AQ.then ?_
                  -- region 30  law.go:117
                  refine EC.region (fun i => [1, 1, 1].getD i 0) [0, 1, 2] rfl ?_
                  refine ER.sil rfl rfl rfl rfl (Sil.move rfl) ?_  -- 30.0: t196 := move
                  refine ER.sil rfl rfl rfl rfl (Sil.add rfl rfl) ?_  -- 30.1: t197 := binOp
                  refine ER.sil rfl rfl rfl rfl (Sil.assign rfl) ?_  -- 30.2: t13 := assign
                  refine ER.nil (fun w42 h42 => ?_)
                  exact AQ.round (i + 1) [0, 5, 6, 7, 8, 11, 13] (by rw [← wrap_succ hlt hlm]; rfl) ⟨((hE.trans h38).trans h42), hlt, hM.ext (h38.trans h42)⟩ (by omega)
              ·
                refine EC.exit ?_
                refine AQ.thenExit ?_
                refine AQ.thenExit ?_
                refine AQ.blockHit ?_
                refine AQ.then ?_
                refine EC.seq ?_
                -- region 37  law.go:125
                refine EC.region (fun i => [1, 1].getD i 0) [0, 1] rfl ?_
                refine ER.sil rfl rfl rfl rfl (Sil.move rfl) ?_  -- 37.0: t247 := move
                refine ER.sil rfl rfl rfl rfl (Sil.assign rfl) ?_  -- 37.1: t4 := assign
                refine ER.nil (fun w43 h43 => ?_)
                refine AQ.then ?_
                refine EC.ret ?_
                refine AQ.ret1 Try.results4 rfl ?_
                exact ⟨rfl, hwa.trans ((hE.trans h36).trans h43)⟩

end Go.Proofs.Ytgagjmapjdeknaa
