/- Bind: the reference's Why. -/
import Derived.Test.YtgagjmapjdeknaaW16
namespace Go.Proofs.Ytgagjmapjdeknaa
open Go.RowKit Go.XK Go.BindLaw

structure WhyS where
  i : Nat
  bs : List Nat
  v : Value

-- linchpin/linchpinref31.Why: parameters ['[]api.Module', 'int', 'string', 'string'] (free 0), results [('ResultVar.tmp', 8)], 78 slots
set_option maxRecDepth 100000 in
theorem whyR_any (ms : List Mo) (v : Value) (m : Int) (name want : ByteArray) (w : World) (hms : Mods w v ms) (hm8 : ms.length ≤ 1000) (hvb : ∀ x, InR ms x → ∀ s, (univ (moAt ms x).versions s).length ≤ 1000) :
    Calls Try.prog 18 [v, .int .i64 m, .string name, .string want].toArray w fun e w' => ∃ v', e = .returned v' ∧ Ext w w' ∧ Pairs w' v' (whyL ms (scopeL ms m) name want) := by
  have hlen := scopeL_len ms m
  refine calls_of Try.func18 rfl Try.ntmps18 rfl ?_
  refine EC.seq ?_
  -- region 0  ref.go:96
  refine EC.region (fun i => [1].getD i 0) [0] rfl ?_
  refine ER.sil rfl rfl rfl rfl (Sil.assign rfl) ?_  -- 0.0: t8 := assign
  refine ER.nil (fun w1 h1 => ?_)
  refine AQ.then ?_
  refine EC.seq ?_
  -- region 1  ref.go:97
  refine EC.region (fun i => [1, 1, 2, 1].getD i 0) [0, 1, 2, 3] rfl ?_
  refine ER.sil rfl rfl rfl rfl (Sil.move rfl) ?_  -- 1.0: t15 := move
  refine ER.sil rfl rfl rfl rfl (Sil.move rfl) ?_  -- 1.1: t16 := move
  refine ER.st rfl rfl rfl rfl (fun w2 h2 => Stp.call fok14 rfl rfl (Calls.mono ((scopR_any ms v m w2 (hms.ext (h1.trans h2)) hm8)) ?_))  -- 1.2: t17 := call
  rintro _ w3 ⟨v3, rfl, h3, hl3⟩
  refine ⟨v3, rfl, h3, ?_⟩
  have hw3 := ((h1.trans h2).trans h3)
  have hlm := hl3.max
  refine ER.sil rfl rfl rfl rfl (Sil.assign rfl) ?_  -- 1.3: t9 := assign
  refine ER.nil (fun w4 h4 => ?_)
  refine AQ.then ?_
  refine EC.seq ?_
  -- region 2  ref.go:98
  refine EC.region (fun i => [1].getD i 0) [0] rfl ?_
  refine ER.sil rfl rfl rfl rfl (Sil.assign rfl) ?_  -- 2.0: t10 := assign
  refine ER.nil (fun w5 h5 => ?_)
  refine AQ.then ?_
  refine EC.seq ?_
  refine EC.seq ?_
  -- region 3  ref.go:99
  refine EC.region (fun i => [1].getD i 0) [0] rfl ?_
  refine ER.sil rfl rfl rfl rfl (Sil.assign rfl) ?_  -- 3.0: t11 := assign
  refine ER.nil (fun w6 h6 => ?_)
  refine AQ.then ?_
  refine EC.block ?_
  refine EC.loop (σ := WhyS) (fun q => [(0, v), (2, .string name), (3, .string want), (9, v3), (10, q.v), (11, .int .i64 (q.i : Int))]) (fun q wr => Ext w3 wr ∧ q.i ≤ (scopeL ms m).length ∧ (∀ j (h : j < (scopeL ms m).length), j < q.i → isHit ms name want (scopeL ms m)[j] = false) ∧ OwnQ wr w3.heap.size 28 1 q.v q.bs.length (q.bs.map slc) ∧ q.bs.length = q.i ∧ ∀ j (h1 : j < q.bs.length) (h2 : j < (scopeL ms m).length), Row wr q.bs[j] 3 (refC ((scopeL ms m)[j], whyX (moAt ms (scopeL ms m)[j]) name want))) (fun q => (scopeL ms m).length - q.i) ⟨0, [], .slice none 0 0⟩ [0, 2, 3, 9, 10, 11] rfl ?_ (fun q wr hF => ?_)
  · exact ⟨((h4.trans h5).trans h6), Nat.zero_le _, (fun j _ h => absurd h (Nat.not_lt_zero j)), OwnQ.of_own (World.ownsRow_nil _ _ _ _), rfl, fun j h => absurd h (Nat.not_lt_zero j)⟩
  obtain ⟨hE, hk, hno, ho, hbs, hbr⟩ := hF
  have hE0 := hE
  refine EC.seq ?_
  refine EC.seq ?_
  -- region 4  ref.go:99
  refine EC.region (fun i => [1, 1, 1, 1].getD i 0) [0, 1, 2, 3] rfl ?_
  refine ER.sil rfl rfl rfl rfl (Sil.move rfl) ?_  -- 4.0: t18 := move
  refine ER.sil rfl rfl rfl rfl (Sil.move rfl) ?_  -- 4.1: t19 := move
  refine ER.sil rfl rfl rfl rfl (Sil.lenR Try.underlying28 rfl (Ints.isS hl3)) ?_  -- 4.2: t20 := call
  refine ER.sil rfl rfl rfl rfl (Sil.lss rfl rfl) ?_  -- 4.3: t21 := binOp
  refine ER.nil (fun w7 h7 => ?_)
  refine AQ.then ?_
  refine EC.cond rfl (fun hb0 => ?_) (fun hb0 => ?_)  -- cond 0: t21
  ·
    have hlt : q.i < (scopeL ms m).length := by have := of_decide_eq_true hb0; omega
    have hin : InR ms (scopeL ms m)[q.i] := scopeL_in _ (List.getElem_mem hlt)
    have hcg : (scopeL ms m).getD q.i 0 = (scopeL ms m)[q.i] := by simp [hlt]
    obtain ⟨ics, hicl, hiat, himc, hione⟩ := hms.image hin
    refine EC.skip ?_
    refine AQ.then ?_
    refine EC.seq ?_
    refine EC.block ?_
    refine EC.seq ?_
    -- region 6  ref.go:100
    refine EC.region (fun i => [1, 1, 1, 1, 0, 1, 1, 0, 2, 3].getD i 0) [0, 1, 2, 3, 4, 5, 6, 7, 8, 9] rfl ?_
    refine ER.sil rfl rfl rfl rfl (Sil.move rfl) ?_  -- 6.0: t24 := move
    refine ER.sil rfl rfl rfl rfl (Sil.move rfl) ?_  -- 6.1: t25 := move
    refine ER.sil rfl rfl rfl rfl (Sil.move rfl) ?_  -- 6.2: t26 := move
    refine ER.sil rfl rfl rfl rfl (Sil.indexR Try.underlying28 inf3 rfl rfl (Ints.isE hl3 (by omega)) (by omega) (by omega)) ?_  -- 6.3: t27 := indexAddr
    refine ER.ex rfl rfl rfl rfl (Exa.load flat3 rfl (Ints.cell (hl3.ext (hE.trans h7)) hlt)) ?_  -- 6.4: t28 := load
    refine ER.sil rfl rfl rfl rfl (Sil.indexR Try.underlying22 inf56 rfl rfl (Mods.isE hms (by have := hin.1; have := hin.2; omega)) (hin.1) (hin.2)) ?_  -- 6.5: t29 := indexAddr
    refine ER.sil rfl rfl rfl rfl (Sil.fieldAddr Try.underlying56 rfl inf54 rfl) ?_  -- 6.6: t30 := fieldAddr
    refine ER.ex rfl rfl rfl rfl (Exa.loadAgg (vs := ics) (by rw [hicl]; exact agg54) rfl (hiat.ext (hw3.trans (hE.trans h7)))) ?_  -- 6.7: t31 := load
    refine ER.st rfl rfl rfl rfl (fun w8 h8 => Stp.alloc inf54 (fun w9 h9 s9 r9 => ⟨h9, ?_⟩))  -- 6.8: t12 := alloc
    refine ER.bar rfl rfl rfl rfl (fun w10 h10 => Stp.store (im_sz hicl) rfl rfl (r9.ext h10) (ag_len (by rw [hicl]; rfl)) (mo_one hione) (fun w11 u11 r11 => ?_))  -- 6.9: tNone := store
    have e11 := ((h8.trans h9).trans h10).upd u11 h8.size
    refine ER.nil (fun w12 h12 => ?_)
    refine AQ.then ?_
    refine EC.seq ?_
    refine EC.seq ?_
    -- region 7  ref.go:101
    refine EC.region (fun i => [0, 1, 1, 0, 1].getD i 0) [0, 1, 2, 3, 4] rfl ?_
    refine ER.ex rfl rfl rfl rfl (Exa.loadAgg (vs := ics) (by rw [hicl]; exact agg54) rfl (((r11.ext h12)).at)) ?_  -- 7.0: t32 := load
    refine ER.sil rfl rfl rfl rfl (Sil.move rfl) ?_  -- 7.1: t33 := move
    refine ER.sil rfl rfl rfl rfl (Sil.move rfl) ?_  -- 7.2: t34 := move
    refine ER.ex rfl rfl rfl rfl (Exa.call fok24 rfl rfl (fun wx hx => (offR_any ics (moAt ms (scopeL ms m)[q.i]) name want wx (himc.ext ((hw3.trans (((hE.trans h7).trans e11).trans h12)).trans hx)) (hvb _ hin)))) ?_  -- 7.3: t35 := call
    refine ER.sil rfl rfl rfl rfl (Sil.geq rfl rfl) ?_  -- 7.4: t36 := binOp
    refine ER.nil (fun w13 h13 => ?_)
    refine AQ.then ?_
    refine EC.cond rfl (fun hb1 => ?_) (fun hb1 => ?_)  -- cond 1: t36
    ·
      obtain ⟨ho1, ho2⟩ := offI_pos (of_decide_eq_true hb1)
      rw [← hcg] at ho1
      refine EC.exit ?_
      refine AQ.thenExit ?_
      refine AQ.blockPass rfl ?_
      refine AQ.thenExit ?_
      refine AQ.thenExit ?_
      refine AQ.blockHit ?_
      refine AQ.then ?_
      refine EC.seq ?_
      -- region 17  ref.go:115
      refine EC.region (fun i => [1, 1].getD i 0) [0, 1] rfl ?_
      refine ER.sil rfl rfl rfl rfl (Sil.move rfl) ?_  -- 17.0: t77 := move
      refine ER.sil rfl rfl rfl rfl (Sil.assign rfl) ?_  -- 17.1: t8 := assign
      refine ER.nil (fun w14 h14 => ?_)
      refine AQ.then ?_
      refine EC.ret ?_
      refine AQ.ret1 Try.results18 rfl ?_
      obtain ⟨_, _, _, e4⟩ := f_hit hlt ho1 hno
      refine ⟨_, rfl, hw3.trans (((((hE.trans h7).trans e11).trans h12).trans h13).trans h14), Pairs.of_q (ho.ext ((((h7.trans e11).trans h12).trans h13).trans h14)) ?_ ?_⟩
      · rw [e4, List.length_map, List.length_take]; omega
      · intro j h1 h2
        simp only [e4, List.getElem_map, List.getElem_take]
        exact (hbr j h1 (by omega)).ext ((((h7.trans e11).trans h12).trans h13).trans h14)
    ·
      have ho1 := offI_neg (of_decide_eq_false hb1)
      rw [← hcg] at ho1
      obtain ⟨ev, vv, hev, hex, hvv, hvd⟩ := himc
      have hm := hex.max
      refine EC.skip ?_
      refine AQ.then ?_
      refine EC.seq ?_
      -- region 8  ref.go:104
      refine EC.region (fun i => [1].getD i 0) [0] rfl ?_
      refine ER.sil rfl rfl rfl rfl (Sil.assign rfl) ?_  -- 8.0: t13 := assign
      refine ER.nil (fun w15 h15 => ?_)
      refine AQ.then ?_
      refine EC.seq ?_
      refine EC.seq ?_
      -- region 9  ref.go:105
      refine EC.region (fun i => [1].getD i 0) [0] rfl ?_
      refine ER.sil rfl rfl rfl rfl (Sil.assign rfl) ?_  -- 9.0: t14 := assign
      refine ER.nil (fun w16 h16 => ?_)
      refine AQ.then ?_
      refine EC.block ?_
      refine EC.loop (σ := Nat) (fun k => [(0, v), (2, .string name), (3, .string want), (9, v3), (10, q.v), (11, .int .i64 (q.i : Int)), (12, ptr w8.heap.size), (13, .int .i64 (whyTo (moAt ms (scopeL ms m)[q.i]) name want k)), (14, .int .i64 (k : Int))]) (fun k wi => Ext wr wi ∧ Row wi w8.heap.size 54 ics ∧ k ≤ (moAt ms (scopeL ms m)[q.i]).exports.length) (fun k => (moAt ms (scopeL ms m)[q.i]).exports.length - k) 0 [0, 2, 3, 9, 10, 11, 12, 13, 14] rfl ?_ (fun k wi hF => ?_)
      · exact ⟨(((((h7.trans e11).trans h12).trans h13).trans h15).trans h16), (r11.ext (((h12.trans h13).trans h15).trans h16)), Nat.zero_le _⟩
      obtain ⟨hE, q12, hke⟩ := hF
      refine EC.seq ?_
      refine EC.seq ?_
      -- region 10  ref.go:105
      refine EC.region (fun i => [1, 1, 0, 1, 1].getD i 0) [0, 1, 2, 3, 4] rfl ?_
      refine ER.sil rfl rfl rfl rfl (Sil.move rfl) ?_  -- 10.0: t37 := move
      refine ER.sil rfl rfl rfl rfl (Sil.fieldAddr Try.underlying54 rfl inf39 rfl) ?_  -- 10.1: t38 := fieldAddr
      refine ER.ex rfl rfl rfl rfl (Exa.load flat39 rfl ((q12).cell hev)) ?_  -- 10.2: t39 := load
      refine ER.sil rfl rfl rfl rfl (Sil.lenR Try.underlying39 rfl (Exs.isS hex)) ?_  -- 10.3: t40 := call
      refine ER.sil rfl rfl rfl rfl (Sil.lss rfl rfl) ?_  -- 10.4: t41 := binOp
      refine ER.nil (fun w17 h17 => ?_)
      refine AQ.then ?_
      refine EC.cond rfl (fun hb2 => ?_) (fun hb2 => ?_)  -- cond 2: t41
      ·
        have hke2 : k < (moAt ms (scopeL ms m)[q.i]).exports.length := by have := of_decide_eq_true hb2; omega
        obtain ⟨cs, hcl, hat, hco⟩ := hex.elem hke2
        have hwn := whyTo_next (name := name) (want := want) hke2
        refine EC.skip ?_
        refine AQ.then ?_
        refine EC.seq ?_
        refine EC.block ?_
        refine EC.seq ?_
        refine EC.seq ?_
        -- region 12  ref.go:106
        refine EC.region (fun i => [1, 0, 1, 1, 1, 0, 1, 1, 1, 1, 1, 1].getD i 0) [0, 1, 2, 3, 4, 5, 6, 7, 8, 9, 10, 11] rfl ?_
        refine ER.sil rfl rfl rfl rfl (Sil.fieldAddr Try.underlying54 rfl inf39 rfl) ?_  -- 12.0: t44 := fieldAddr
        refine ER.ex rfl rfl rfl rfl (Exa.load flat39 rfl (((q12.ext h17)).cell hev)) ?_  -- 12.1: t45 := load
        refine ER.sil rfl rfl rfl rfl (Sil.move rfl) ?_  -- 12.2: t46 := move
        refine ER.sil rfl rfl rfl rfl (Sil.indexR Try.underlying39 inf62 rfl rfl (Exs.isE hex (by omega)) (by omega) (by omega)) ?_  -- 12.3: t47 := indexAddr
        refine ER.sil rfl rfl rfl rfl (Sil.fieldAddr Try.underlying62 rfl inf9 rfl) ?_  -- 12.4: t48 := fieldAddr
        refine ER.ex rfl rfl rfl rfl (Exa.load flat9 rfl (cell_ext ((hw3.trans hE0).trans (hE.trans h17)) (hat _ _ hco.2.1))) ?_  -- 12.5: t49 := load
        refine ER.sil rfl rfl rfl rfl (Sil.move rfl) ?_  -- 12.6: t50 := move
        refine ER.sil rfl rfl rfl rfl (Sil.seql rfl rfl) ?_  -- 12.7: t51 := binOp
        refine ER.sil rfl rfl rfl rfl (Sil.move rfl) ?_  -- 12.8: t52 := move
        refine ER.silG rfl rfl rfl rfl rfl rfl (fun hc => Sil.move rfl) ?_  -- 12.9: t53 := move
        refine ER.silG rfl rfl rfl rfl rfl rfl (fun hc => Sil.seql (congrArg some (sel_eq hc _)) rfl) ?_  -- 12.10: t54 := binOp
        refine ER.sil rfl rfl rfl rfl (Sil.pickAnd rfl rfl rfl) ?_  -- 12.11: t55 := pick
        refine ER.nil (fun w18 h18 => ?_)
        refine AQ.then ?_
        refine EC.cond rfl (fun hb3 => ?_) (fun hb3 => ?_)  -- cond 3: t55
        ·
          simp only [Bool.and_eq_true, decide_eq_true_eq] at hb3
          rw [if_pos hb3.1, if_pos (show want = ByteArray.empty from hb3.2)] at hwn
          -- region 13  ref.go:107
          refine EC.region (fun i => [1].getD i 0) [0] rfl ?_
          refine ER.sil rfl rfl rfl rfl (Sil.assign rfl) ?_  -- 13.0: t13 := assign
          refine ER.nil (fun w19 h19 => ?_)
          refine AQ.then ?_
          refine EC.seq ?_
          -- region 14  ref.go:109
          refine EC.region (fun i => [1, 0, 1, 1, 1, 0, 1, 1, 1, 1, 1, 1].getD i 0) [0, 1, 2, 3, 4, 5, 6, 7, 8, 9, 10, 11] rfl ?_
          refine ER.sil rfl rfl rfl rfl (Sil.fieldAddr Try.underlying54 rfl inf39 rfl) ?_  -- 14.0: t56 := fieldAddr
          refine ER.ex rfl rfl rfl rfl (Exa.load flat39 rfl (((q12.ext ((h17.trans h18).trans h19))).cell hev)) ?_  -- 14.1: t57 := load
          refine ER.sil rfl rfl rfl rfl (Sil.move rfl) ?_  -- 14.2: t58 := move
          refine ER.sil rfl rfl rfl rfl (Sil.indexR Try.underlying39 inf62 rfl rfl (Exs.isE hex (by omega)) (by omega) (by omega)) ?_  -- 14.3: t59 := indexAddr
          refine ER.sil rfl rfl rfl rfl (Sil.fieldAddr Try.underlying62 rfl inf9 rfl) ?_  -- 14.4: t60 := fieldAddr
          refine ER.ex rfl rfl rfl rfl (Exa.load flat9 rfl (cell_ext ((hw3.trans hE0).trans (((hE.trans h17).trans h18).trans h19)) (hat _ _ hco.2.1))) ?_  -- 14.5: t61 := load
          refine ER.sil rfl rfl rfl rfl (Sil.move rfl) ?_  -- 14.6: t62 := move
          refine ER.sil rfl rfl rfl rfl (Sil.seql rfl rfl) ?_  -- 14.7: t63 := binOp
          refine ER.sil rfl rfl rfl rfl (Sil.move rfl) ?_  -- 14.8: t64 := move
          refine ER.silG rfl rfl rfl rfl rfl rfl (fun hc => Sil.move rfl) ?_  -- 14.9: t65 := move
          refine ER.silG rfl rfl rfl rfl rfl rfl (fun hc => Sil.sneq (congrArg some (sel_eq hc _)) rfl) ?_  -- 14.10: t66 := binOp
          refine ER.sil rfl rfl rfl rfl (Sil.pickAnd rfl rfl rfl) ?_  -- 14.11: t67 := pick
          refine ER.nil (fun w20 h20 => ?_)
          refine AQ.then ?_
          refine EC.cond rfl (fun hb4 => ?_) (fun hb4 => ?_)  -- cond 4: t67
          ·
            have h2 := hb3.2
            rw [decide_eq_true h2] at hb4
            simp at hb4
          ·
            refine EC.skip ?_
            refine AQ.blockNormal ?_
            refine AQ.then ?_
            -- region 11  ref.go:105
            refine EC.region (fun i => [1, 1, 1].getD i 0) [0, 1, 2] rfl ?_
            refine ER.sil rfl rfl rfl rfl (Sil.move rfl) ?_  -- 11.0: t42 := move
            refine ER.sil rfl rfl rfl rfl (Sil.add rfl rfl) ?_  -- 11.1: t43 := binOp
            refine ER.sil rfl rfl rfl rfl (Sil.assign rfl) ?_  -- 11.2: t14 := assign
            refine ER.nil (fun w21 h21 => ?_)
            exact AQ.round (k + 1) [0, 2, 3, 9, 10, 11, 12, 13, 14] (by rw [hwn, ← wrap_succ hke2 hm]; rfl) ⟨(((((hE.trans h17).trans h18).trans h19).trans h20).trans h21), (q12.ext ((((h17.trans h18).trans h19).trans h20).trans h21)), hke2⟩ (by omega)
        ·
          refine EC.skip ?_
          refine AQ.then ?_
          refine EC.seq ?_
          -- region 14  ref.go:109
          refine EC.region (fun i => [1, 0, 1, 1, 1, 0, 1, 1, 1, 1, 1, 1].getD i 0) [0, 1, 2, 3, 4, 5, 6, 7, 8, 9, 10, 11] rfl ?_
          refine ER.sil rfl rfl rfl rfl (Sil.fieldAddr Try.underlying54 rfl inf39 rfl) ?_  -- 14.0: t56 := fieldAddr
          refine ER.ex rfl rfl rfl rfl (Exa.load flat39 rfl (((q12.ext (h17.trans h18))).cell hev)) ?_  -- 14.1: t57 := load
          refine ER.sil rfl rfl rfl rfl (Sil.move rfl) ?_  -- 14.2: t58 := move
          refine ER.sil rfl rfl rfl rfl (Sil.indexR Try.underlying39 inf62 rfl rfl (Exs.isE hex (by omega)) (by omega) (by omega)) ?_  -- 14.3: t59 := indexAddr
          refine ER.sil rfl rfl rfl rfl (Sil.fieldAddr Try.underlying62 rfl inf9 rfl) ?_  -- 14.4: t60 := fieldAddr
          refine ER.ex rfl rfl rfl rfl (Exa.load flat9 rfl (cell_ext ((hw3.trans hE0).trans ((hE.trans h17).trans h18)) (hat _ _ hco.2.1))) ?_  -- 14.5: t61 := load
          refine ER.sil rfl rfl rfl rfl (Sil.move rfl) ?_  -- 14.6: t62 := move
          refine ER.sil rfl rfl rfl rfl (Sil.seql rfl rfl) ?_  -- 14.7: t63 := binOp
          refine ER.sil rfl rfl rfl rfl (Sil.move rfl) ?_  -- 14.8: t64 := move
          refine ER.silG rfl rfl rfl rfl rfl rfl (fun hc => Sil.move rfl) ?_  -- 14.9: t65 := move
          refine ER.silG rfl rfl rfl rfl rfl rfl (fun hc => Sil.sneq (congrArg some (sel_eq hc _)) rfl) ?_  -- 14.10: t66 := binOp
          refine ER.sil rfl rfl rfl rfl (Sil.pickAnd rfl rfl rfl) ?_  -- 14.11: t67 := pick
          refine ER.nil (fun w22 h22 => ?_)
          refine AQ.then ?_
          refine EC.cond rfl (fun hb5 => ?_) (fun hb5 => ?_)  -- cond 5: t67
          ·
            simp only [Bool.and_eq_true, decide_eq_true_eq, Bool.not_eq_true', decide_eq_false_iff_not] at hb5
            rw [if_pos hb5.1, if_neg (show ¬ want = ByteArray.empty from hb5.2)] at hwn
            -- region 15  ref.go:110
            refine EC.region (fun i => [1].getD i 0) [0] rfl ?_
            refine ER.sil rfl rfl rfl rfl (Sil.assign rfl) ?_  -- 15.0: t13 := assign
            refine ER.nil (fun w23 h23 => ?_)
            refine AQ.blockNormal ?_
            refine AQ.then ?_
            -- region 11  ref.go:105
            refine EC.region (fun i => [1, 1, 1].getD i 0) [0, 1, 2] rfl ?_
            refine ER.sil rfl rfl rfl rfl (Sil.move rfl) ?_  -- 11.0: t42 := move
            refine ER.sil rfl rfl rfl rfl (Sil.add rfl rfl) ?_  -- 11.1: t43 := binOp
            refine ER.sil rfl rfl rfl rfl (Sil.assign rfl) ?_  -- 11.2: t14 := assign
            refine ER.nil (fun w24 h24 => ?_)
            exact AQ.round (k + 1) [0, 2, 3, 9, 10, 11, 12, 13, 14] (by rw [hwn, ← wrap_succ hke2 hm]; rfl) ⟨(((((hE.trans h17).trans h18).trans h22).trans h23).trans h24), (q12.ext ((((h17.trans h18).trans h22).trans h23).trans h24)), hke2⟩ (by omega)
          ·
            have hne : ¬ (moAt ms (scopeL ms m)[q.i]).exports[k].name = name := by
              intro h
              rw [decide_eq_true h] at hb3 hb5
              simp at hb3 hb5
              exact hb3 hb5
            rw [if_neg hne] at hwn
            refine EC.skip ?_
            refine AQ.blockNormal ?_
            refine AQ.then ?_
            -- region 11  ref.go:105
            refine EC.region (fun i => [1, 1, 1].getD i 0) [0, 1, 2] rfl ?_
            refine ER.sil rfl rfl rfl rfl (Sil.move rfl) ?_  -- 11.0: t42 := move
            refine ER.sil rfl rfl rfl rfl (Sil.add rfl rfl) ?_  -- 11.1: t43 := binOp
            refine ER.sil rfl rfl rfl rfl (Sil.assign rfl) ?_  -- 11.2: t14 := assign
            refine ER.nil (fun w25 h25 => ?_)
            exact AQ.round (k + 1) [0, 2, 3, 9, 10, 11, 12, 13, 14] (by rw [hwn, ← wrap_succ hke2 hm]; rfl) ⟨((((hE.trans h17).trans h18).trans h22).trans h25), (q12.ext (((h17.trans h18).trans h22).trans h25)), hke2⟩ (by omega)
      ·
        refine EC.exit ?_
        refine AQ.thenExit ?_
        refine AQ.thenExit ?_
        refine AQ.blockHit ?_
        refine AQ.then ?_
        -- region 16  ref.go:113
        refine EC.region (fun i => [1, 1, 1, 1, 0, 1, 2, 2, 3, 1].getD i 0) [0, 1, 2, 3, 4, 5, 6, 7, 8, 9] rfl ?_
        refine ER.sil rfl rfl rfl rfl (Sil.move rfl) ?_  -- 16.0: t68 := move
        refine ER.sil rfl rfl rfl rfl (Sil.move rfl) ?_  -- 16.1: t69 := move
        refine ER.sil rfl rfl rfl rfl (Sil.move rfl) ?_  -- 16.2: t70 := move
        refine ER.sil rfl rfl rfl rfl (Sil.indexR Try.underlying28 inf3 rfl rfl (Ints.isE hl3 (by omega)) (by omega) (by omega)) ?_  -- 16.3: t71 := indexAddr
        refine ER.ex rfl rfl rfl rfl (Exa.load flat3 rfl (Ints.cell (hl3.ext (hE0.trans (hE.trans h17))) hlt)) ?_  -- 16.4: t72 := load
        refine ER.sil rfl rfl rfl rfl (Sil.move rfl) ?_  -- 16.5: t73 := move
        refine ER.st rfl rfl rfl rfl (fun w26 h26 => Stp.buildAll [_, _] Try.underlying28 inf3 rfl rfl rfl rfl rfl rfl (fun w27 h27 s27 r27 => ⟨h27, ?_⟩))  -- 16.6: t74 := buildSlice
        refine ER.st rfl rfl rfl rfl (fun w28 h28 => Stp.buildAll [_] Try.underlying33 inf28 rfl rfl rfl rfl rfl rfl (fun w29 h29 s29 r29 => ⟨h29, ?_⟩))  -- 16.7: t75 := buildSlice
        --  -- 16.8: t76 := call
        refine ER.bar rfl rfl rfl rfl (fun w30 h30 => ?_)
        have hoa := ho.ext ((((((hE.trans h17).trans h26).trans h27).trans h28).trans h29).trans h30)
        refine Stp.appendQ Try.underlying33 inf28 rfl rfl rfl hoa ((hE0.trans ((((((hE.trans h17).trans h26).trans h27).trans h28).trans h29).trans h30)).size) (Reads.of_row (r29.ext h30) rfl (by decide)) (by intro u hu; simp [catCells, Value.cells] at hu; subst hu; rfl) (by rw [hbs]; omega) (by rw [hbs]; unfold maxLen; omega) (fun vq w31 ob g31 nb => ?_)
        have eb := (hE0.trans ((((((hE.trans h17).trans h26).trans h27).trans h28).trans h29).trans h30)).grown g31 (fun k hk => (hoa.lt k hk).1)
        have hgr : ∀ b l, Row w30 b 3 l → Row w31 b 3 l := fun b l hb => hb.grown g31 (fun e => OwnQ.typ hoa hb e.symm (by decide))
        have g74 := hgr _ _ ((r27.ext (h28.trans h29)).ext h30)
        have hbb := fun j (h1 : j < q.bs.length) (h2 : j < (scopeL ms m).length) => hgr _ _ ((hbr j h1 h2).ext ((((((hE.trans h17).trans h26).trans h27).trans h28).trans h29).trans h30))
        refine ER.sil rfl rfl rfl rfl (Sil.assign rfl) ?_  -- 16.9: t10 := assign
        refine ER.nil (fun w32 h32 => ?_)
        refine AQ.blockNormal ?_
        refine AQ.then ?_
        -- region 5  ref.go:99
        refine EC.region (fun i => [1, 1, 1].getD i 0) [0, 1, 2] rfl ?_
        refine ER.sil rfl rfl rfl rfl (Sil.move rfl) ?_  -- 5.0: t22 := move
        refine ER.sil rfl rfl rfl rfl (Sil.add rfl rfl) ?_  -- 5.1: t23 := binOp
        refine ER.sil rfl rfl rfl rfl (Sil.assign rfl) ?_  -- 5.2: t11 := assign
        refine ER.nil (fun w33 h33 => ?_)
        have hge : k = (moAt ms (scopeL ms m)[q.i]).exports.length := by have := of_decide_eq_false hb2; omega
        subst hge
        refine AQ.round ⟨q.i + 1, q.bs ++ [w26.heap.size], vq⟩ [0, 2, 3, 9, 10, 11] (by rw [← wrap_succ hlt hlm]; rfl) ⟨((eb.trans h32).trans h33), hlt, noHit_next hlt ho1 hno, ?_, ?_, ?_⟩ (by simp only; omega)
        · simp only [List.length_append, List.map_append]
          exact (ob.ext (h32.trans h33))
        · simp [hbs]
        · intro j h1 h2
          simp only [List.length_append, List.length_singleton] at h1
          rcases Nat.lt_or_ge j q.bs.length with hj | hj
          · simp only [List.getElem_append_left hj]
            exact (hbb j hj h2).ext (h32.trans h33)
          · have hj2 : j = q.bs.length := by omega
            subst hj2
            rw [List.getElem_append_right (Nat.le_refl _)]
            simp only [Nat.sub_self, List.getElem_cons_zero, hbs]
            exact g74.ext (h32.trans h33)
  ·
    refine EC.exit ?_
    refine AQ.thenExit ?_
    refine AQ.thenExit ?_
    refine AQ.blockHit ?_
    refine AQ.then ?_
    refine EC.seq ?_
    -- region 17  ref.go:115
    refine EC.region (fun i => [1, 1].getD i 0) [0, 1] rfl ?_
    refine ER.sil rfl rfl rfl rfl (Sil.move rfl) ?_  -- 17.0: t77 := move
    refine ER.sil rfl rfl rfl rfl (Sil.assign rfl) ?_  -- 17.1: t8 := assign
    refine ER.nil (fun w34 h34 => ?_)
    refine AQ.then ?_
    refine EC.ret ?_
    refine AQ.ret1 Try.results18 rfl ?_
    have hge : q.i = (scopeL ms m).length := by have := of_decide_eq_false hb0; omega
    obtain ⟨_, _, _, e4⟩ := f_miss fun j h => hno j h (by omega)
    refine ⟨_, rfl, hw3.trans ((hE.trans h7).trans h34), Pairs.of_q (ho.ext (h7.trans h34)) ?_ ?_⟩
    · rw [e4, List.length_map]; omega
    · intro j h1 h2
      simp only [e4, List.getElem_map]
      exact (hbr j h1 (by omega)).ext (h7.trans h34)

end Go.Proofs.Ytgagjmapjdeknaa
