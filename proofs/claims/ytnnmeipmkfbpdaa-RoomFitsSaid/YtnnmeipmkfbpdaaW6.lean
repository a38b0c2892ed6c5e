/- Room: Add. -/
import Derived.Test.YtnnmeipmkfbpdaaW5
namespace Go.Proofs.Ytnnmeipmkfbpdaa
open Go.RowKit Go.XK Go.RoomLaw

structure AddS where
  k : Nat
  out : List Sp
  s : Sp
  v : Value

-- linchpin/room.Add: parameters ['[]api.Span', 'api.Span'] (free 0), results [('ResultVar.tmp', 4)], 74 slots
theorem add_any (l : List Sp) (v : Value) (s : Sp) (w : World) (hl : Spans w v l) (hn : l.length ≤ 400) :
    Calls Try.prog 12 [v, spV s].toArray w fun e w' => ∃ v', e = .returned v' ∧ Ext w w' ∧ w'.ownsRow w.heap.size 24 2 v' (addB l s).length (spCs (addB l s)) := by
  obtain ⟨b0, c0, rfl, hm⟩ := Spans.len hl
  refine calls_of Try.func12 rfl Try.ntmps12 rfl ?_
  refine EC.seq ?_
  -- region 0  room.go:30
  refine EC.region (fun i => [2, 1].getD i 0) [0, 1] rfl ?_
  refine ER.st rfl rfl rfl rfl (fun w1 h1 => Stp.box rfl (fun w2 h2 s2 r2 => ⟨h2, ?_⟩))  -- 0.0: t3 := box
  refine ER.sil rfl rfl rfl rfl (Sil.assign rfl) ?_  -- 0.1: t4 := assign
  refine ER.nil (fun w3 h3 => ?_)
  refine AQ.then ?_
  refine EC.seq ?_
  refine EC.seq ?_
  -- region 1  room.go:31
  refine EC.region (fun i => [1, 0, 1, 1, 0, 0, 1, 1, 1, 1, 0, 1, 1].getD i 0) [0, 1, 2, 3, 4, 5, 6, 7, 8, 9, 10, 11, 12] rfl ?_
  refine ER.sil rfl rfl rfl rfl (Sil.move rfl) ?_  -- 1.0: t9 := move
  refine ER.ex rfl rfl rfl rfl (Exa.call fok16 rfl rfl (fun wx hx => (right_any l _ wx (hl.ext (((h1.trans h2).trans h3).trans hx))))) ?_  -- 1.1: t10 := call
  refine ER.sil rfl rfl rfl rfl (Sil.not rfl) ?_  -- 1.2: t11 := unOp
  refine ER.sil rfl rfl rfl rfl (Sil.move rfl) ?_  -- 1.3: t12 := move
  refine ER.exG rfl rfl rfl rfl rfl rfl (fun hc => Exa.loadAgg (vs := spC s) agg24 rfl ((r2.ext h3).at)) ?_  -- 1.4: t13 := load
  refine ER.exG rfl rfl rfl rfl rfl rfl (fun hc => Exa.call fok27 rfl (evs_cons (congrArg some (sel_eq hc _)) evs_nil) (fun wx hx => (valid_any s wx))) ?_  -- 1.5: t14 := call
  refine ER.silG rfl rfl rfl rfl rfl rfl (fun hc => Sil.not (congrArg some (sel_eq hc _))) ?_  -- 1.6: t15 := unOp
  refine ER.sil rfl rfl rfl rfl (Sil.pickOr rfl rfl rfl) ?_  -- 1.7: t16 := pick
  refine ER.sil rfl rfl rfl rfl (Sil.move rfl) ?_  -- 1.8: t17 := move
  refine ER.silG rfl rfl rfl rfl rfl rfl (fun hc => Sil.fieldAddr Try.underlying24 rfl inf3 rfl) ?_  -- 1.9: t18 := fieldAddr
  refine ER.exG rfl rfl rfl rfl rfl rfl (fun hc => Exa.load flat3 (congrArg some (sel_eq hc _)) ((r2.ext h3).cell rfl)) ?_  -- 1.10: t19 := load
  refine ER.silG rfl rfl rfl rfl rfl rfl (fun hc => Sil.eql (congrArg some (sel_eq hc _)) rfl) ?_  -- 1.11: t20 := binOp
  refine ER.sil rfl rfl rfl rfl (Sil.pickOr rfl rfl rfl) ?_  -- 1.12: t21 := pick
  refine ER.nil (fun w4 h4 => ?_)
  refine AQ.then ?_
  refine EC.cond rfl (fun hb0 => ?_) (fun hb0 => ?_)  -- cond 0: t21
  ·
    have hadd : addB l s = l := by rw [addB, if_pos hb0]
    refine EC.seq ?_
    -- region 2  room.go:32
    refine EC.region (fun i => [1, 2, 1].getD i 0) [0, 1, 2] rfl ?_
    refine ER.sil rfl rfl rfl rfl (Sil.move rfl) ?_  -- 2.0: t22 := move
    refine ER.st rfl rfl rfl rfl (fun w5 h5 => Stp.call fok28 rfl rfl (Calls.mono ((clone_any l _ w5 (hl.ext ((((h1.trans h2).trans h3).trans h4).trans h5)) (by omega))) ?_))  -- 2.1: t23 := call
    rintro _ w6 ⟨v6, rfl, h6, out6⟩
    refine ⟨v6, rfl, h6, ?_⟩
    have hq0 := Nat.le_trans (((h1.trans h2).trans h3).trans h4).size h5.size
    refine ER.sil rfl rfl rfl rfl (Sil.assign rfl) ?_  -- 2.2: t4 := assign
    refine ER.nil (fun w7 h7 => ?_)
    refine AQ.then ?_
    refine EC.ret ?_
    refine AQ.thenRet ?_
    refine AQ.ret1 Try.results12 rfl ?_
    exact ⟨_, rfl, ((((((h1.trans h2).trans h3).trans h4).trans h5).trans h6).trans h7), by rw [hadd]; exact own_base (Ext.own out6 h7) hq0⟩
  ·
    have hadd : addB l s = addGo l s := by rw [addB, if_neg (by rw [hb0]; exact Bool.false_ne_true)]
    refine EC.skip ?_
    refine AQ.then ?_
    refine EC.seq ?_
    -- region 3  room.go:34
    refine EC.region (fun i => [1].getD i 0) [0] rfl ?_
    refine ER.sil rfl rfl rfl rfl (Sil.assign rfl) ?_  -- 3.0: t5 := assign
    refine ER.nil (fun w8 h8 => ?_)
    refine AQ.then ?_
    refine EC.seq ?_
    refine EC.seq ?_
    -- region 4  room.go:35
    refine EC.region (fun i => [1, 1, 1].getD i 0) [0, 1, 2] rfl ?_
    refine ER.sil rfl rfl rfl rfl (Sil.move rfl) ?_  -- 4.0: t24 := move
    refine ER.sil rfl rfl rfl rfl (Sil.len Try.underlying22 rfl) ?_  -- 4.1: t25 := call
    refine ER.sil rfl rfl rfl rfl (Sil.move rfl) ?_  -- 4.2: t26 := move
    refine ER.nil (fun w9 h9 => ?_)
    refine AQ.then ?_
    refine EC.block ?_
    refine EC.loop (σ := AddS) (fun q => [(0, .slice b0 l.length c0), (3, .pointer (some ⟨w1.heap.size, 0, none⟩)), (5, q.v), (24, .slice b0 l.length c0), (25, .int .i64 (l.length : Int)), (26, .int .i64 (q.k : Int))]) (fun q wr => Ext w wr ∧ q.k ≤ l.length ∧ Row wr w1.heap.size 24 (spC q.s) ∧ wr.ownsRow (w1.heap.size + 1) 24 2 q.v q.out.length (spCs q.out) ∧ q.out ++ addGo (l.drop q.k) q.s = addGo l s ∧ q.out.length ≤ q.k) (fun q => l.length - q.k) ⟨0, [], s, .slice none 0 0⟩ [0, 3, 5, 24, 25, 26] rfl ?_ (fun q wr hF => ?_)
    · exact ⟨(((((h1.trans h2).trans h3).trans h4).trans h8).trans h9), Nat.zero_le _, (r2.ext (((h3.trans h4).trans h8).trans h9)), World.ownsRow_nil _ _ _ _, rfl, Nat.le_refl _⟩
    obtain ⟨hE, hk, q3, out, hgo, hol⟩ := hF
    refine EC.seq ?_
    -- region 5  room.go:35
    refine EC.region (fun i => [1].getD i 0) [0] rfl ?_
    refine ER.sil rfl rfl rfl rfl (Sil.lss rfl rfl) ?_  -- 5.0: t27 := binOp
    refine ER.nil (fun w10 h10 => ?_)
    refine AQ.then ?_
    refine EC.seq ?_
    refine EC.cond rfl (fun hb1 => ?_) (fun hb1 => ?_)  -- cond 1: t27
    ·
      have hlt : q.k < l.length := by simpa using hb1
      obtain ⟨b, o, rfl, hat⟩ := Spans.has (hl.ext (hE.trans h10)) hlt
      rw [drop_gt hlt, addGo] at hgo
      refine EC.skip ?_
      refine AQ.then ?_
      refine EC.seq ?_
      refine EC.block ?_
      refine EC.seq ?_
      -- region 6  room.go:35
      refine EC.region (fun i => [1, 1, 0, 2, 1, 3].getD i 0) [0, 1, 2, 3, 4, 5] rfl ?_
      refine ER.sil rfl rfl rfl rfl (Sil.move rfl) ?_  -- 6.0: t28 := move
      refine ER.sil rfl rfl rfl rfl (Sil.indexAddr Try.underlying22 inf24 rfl rfl (by omega) (by omega)) ?_  -- 6.1: t29 := indexAddr
      refine ER.ex rfl rfl rfl rfl (Exa.loadAgg (vs := spC (gt l q.k)) agg24 rfl (Spans.at hat hlt)) ?_  -- 6.2: t30 := load
      refine ER.st rfl rfl rfl rfl (fun w11 h11 => Stp.alloc inf24 (fun w12 h12 s12 r12 => ⟨h12, ?_⟩))  -- 6.3: t7 := alloc
      refine ER.sil rfl rfl rfl rfl (Sil.assign rfl) ?_  -- 6.4: t6 := assign
      refine ER.bar rfl rfl rfl rfl (fun w13 h13 => Stp.store (by kernel_rfl) rfl rfl (r12.ext h13) rfl rfl (fun w14 u14 r14 => ?_))  -- 6.5: tNone := store
      have e14 := ((h11.trans h12).trans h13).upd u14 h11.size
      refine ER.nil (fun w15 h15 => ?_)
      refine AQ.then ?_
      refine EC.block ?_
      refine EC.seq ?_
      -- region 9  room.go:37
      refine EC.draw (fun i => [0, 0, 1, 0, 1, 1].getD i 0) [0, 1, 2, 3, 4, 5] (by kernel_rfl) (by kernel_rfl) ?_
      refine ER.ex rfl rfl rfl rfl (Exa.loadAgg (vs := spC (gt l q.k)) agg24 rfl ((r14.ext h15).at)) ?_  -- 9.0: t46 := load
      refine ER.ex rfl rfl rfl rfl (Exa.call fok26 rfl rfl (fun wx hx => (end_any (gt l q.k) wx))) ?_  -- 9.1: t47 := call
      refine ER.sil rfl rfl rfl rfl (Sil.fieldAddr Try.underlying24 rfl inf3 rfl) ?_  -- 9.2: t48 := fieldAddr
      refine ER.ex rfl rfl rfl rfl (Exa.load flat3 rfl ((q3.ext ((h10.trans e14).trans h15)).cell rfl)) ?_  -- 9.3: t49 := load
      refine ER.sil rfl rfl rfl rfl (Sil.lss rfl rfl) ?_  -- 9.4: t50 := binOp
      refine ER.sil rfl rfl rfl rfl (Sil.assign rfl) ?_  -- 9.5: t45 := assign
      refine ER.nil (fun w16 h16 => ?_)
      refine AQ.then ?_
      refine EC.cond rfl (fun hb2 => ?_) (fun hb2 => ?_)  -- cond 2: t45
      ·
        rw [if_pos (of_decide_eq_true hb2)] at hgo
        -- region 10  room.go:38
        refine EC.region (fun i => [1, 0, 2, 3, 1].getD i 0) [0, 1, 2, 3, 4] rfl ?_
        refine ER.sil rfl rfl rfl rfl (Sil.move rfl) ?_  -- 10.0: t51 := move
        refine ER.ex rfl rfl rfl rfl (Exa.loadAgg (vs := spC (gt l q.k)) agg24 rfl ((r14.ext (h15.trans h16)).at)) ?_  -- 10.1: t52 := load
        refine ER.st rfl rfl rfl rfl (fun w17 h17 => Stp.buildAll [_] Try.underlying22 inf24 rfl rfl rfl rfl rfl rfl (fun w18 h18 s18 r18 => ⟨h18, ?_⟩))  -- 10.2: t53 := buildSlice
        refine ER.bar rfl rfl rfl rfl (fun w19 h19 => ?_)  -- 10.3: t54 := call
        have o19 := (Ext.own out ((((((h10.trans e14).trans h15).trans h16).trans h17).trans h18).trans h19))
        refine Stp.append Try.underlying22 inf24 rfl (by decide) rfl rfl o19 (Nat.le_trans q3.lt ((((((h10.trans e14).trans h15).trans h16).trans h17).trans h18).trans h19).size) (Reads.of_row (r18.ext h19) rfl (by decide)) (spC_one _) (by first | omega | (simp only [List.length_append, List.length_cons, List.length_nil]; omega)) (by unfold maxLen; first | omega | (simp only [List.length_append, List.length_cons, List.length_nil]; omega)) (fun v20 w20 o20 g20 n20 => ?_)
        have e20 := (((((((hE.trans h10).trans e14).trans h15).trans h16).trans h17).trans h18).trans h19).grown g20 (fun k hk => Nat.le_trans (Nat.le_succ_of_le h1.size) (o19.lt k hk).1)
        have x20_3 := (q3.ext ((((((h10.trans e14).trans h15).trans h16).trans h17).trans h18).trans h19)).grown g20 (own_ne o19 (Nat.lt_succ_self _))
        have z20 : w20.ownsRow (w1.heap.size + 1) 24 2 v20 (q.out ++ [gt l q.k]).length (spCs (q.out ++ [gt l q.k])) := by rw [List.length_append, spCs_snoc]; exact o20
        refine ER.sil rfl rfl rfl rfl (Sil.assign rfl) ?_  -- 10.4: t5 := assign
        refine ER.nil (fun w21 h21 => ?_)
        refine AQ.blockNormal ?_
        refine AQ.blockNormal ?_
        refine AQ.then ?_
        -- region 13  room.go:35
        refine EC.region (fun i => [1, 1].getD i 0) [0, 1] rfl ?_
        refine ER.sil rfl rfl rfl rfl (Sil.add rfl rfl) ?_  -- 13.0: t69 := binOp
        refine ER.sil rfl rfl rfl rfl (Sil.move rfl) ?_  -- 13.1: t26 := move
        refine ER.nil (fun w22 h22 => ?_)
        refine AQ.round ⟨q.k + 1, q.out ++ [gt l q.k], q.s, _⟩ [0, 3, 5, 24, 25, 26] (by rw [wrap_succ hlt hm]; rfl) ⟨((e20.trans h21).trans h22), hlt, (x20_3.ext (h21.trans h22)), (Ext.own z20 (h21.trans h22)), by rw [← hgo]; simp, by simp; omega⟩ (by simp only; omega)
      ·
        rw [if_neg (of_decide_eq_false hb2)] at hgo
        refine EC.seq ?_
        -- region 11  room.go:39
        refine EC.draw (fun i => [1, 0, 0, 0, 1, 1].getD i 0) [0, 1, 2, 3, 4, 5] (by kernel_rfl) (by kernel_rfl) ?_
        refine ER.sil rfl rfl rfl rfl (Sil.fieldAddr Try.underlying24 rfl inf3 rfl) ?_  -- 11.0: t56 := fieldAddr
        refine ER.ex rfl rfl rfl rfl (Exa.load flat3 rfl ((r14.ext (h15.trans h16)).cell rfl)) ?_  -- 11.1: t57 := load
        refine ER.ex rfl rfl rfl rfl (Exa.loadAgg (vs := spC q.s) agg24 rfl ((q3.ext (((h10.trans e14).trans h15).trans h16)).at)) ?_  -- 11.2: t58 := load
        refine ER.ex rfl rfl rfl rfl (Exa.call fok26 rfl rfl (fun wx hx => (end_any q.s wx))) ?_  -- 11.3: t59 := call
        refine ER.sil rfl rfl rfl rfl (Sil.gtr rfl rfl) ?_  -- 11.4: t60 := binOp
        refine ER.sil rfl rfl rfl rfl (Sil.assign rfl) ?_  -- 11.5: t55 := assign
        refine ER.nil (fun w23 h23 => ?_)
        refine AQ.then ?_
        refine EC.cond rfl (fun hb3 => ?_) (fun hb3 => ?_)  -- cond 3: t55
        ·
          rw [if_pos (of_decide_eq_true hb3)] at hgo
          refine EC.seq ?_
          -- region 12  room.go:40
          refine EC.draw (fun i => [1, 0, 2, 3, 1, 1, 1, 3, 1].getD i 0) [0, 1, 4, 5, 6, 2, 3, 7, 8] (by kernel_rfl) (by kernel_rfl) ?_
          refine ER.sil rfl rfl rfl rfl (Sil.move rfl) ?_  -- 12.0: t61 := move
          refine ER.ex rfl rfl rfl rfl (Exa.loadAgg (vs := spC q.s) agg24 rfl ((q3.ext ((((h10.trans e14).trans h15).trans h16).trans h23)).at)) ?_  -- 12.1: t62 := load
          refine ER.sil rfl rfl rfl rfl (Sil.move rfl) ?_  -- 12.4: t65 := move
          refine ER.sil rfl rfl rfl rfl (Sil.move rfl) ?_  -- 12.5: t66 := move
          refine ER.sil rfl rfl rfl rfl (Sil.sliceL Try.underlying22 inf24 rfl rfl (by omega) (by omega)) ?_  -- 12.6: t67 := slice
          refine ER.st rfl rfl rfl rfl (fun w24 h24 => Stp.buildAll [_] Try.underlying22 inf24 rfl rfl rfl rfl rfl rfl (fun w25 h25 s25 r25 => ⟨h25, ?_⟩))  -- 12.2: t63 := buildSlice
          have hbs := Nat.le_trans q3.lt ((((((h10.trans e14).trans h15).trans h16).trans h23).trans h24).trans h25).size
          refine ER.bar rfl rfl rfl rfl (fun w26 h26 => ?_)  -- 12.3: t64 := call
          have o26 := (Ext.own out (((((((h10.trans e14).trans h15).trans h16).trans h23).trans h24).trans h25).trans h26))
          refine Stp.append Try.underlying22 inf24 rfl (by decide) rfl rfl o26 (Nat.le_trans q3.lt (((((((h10.trans e14).trans h15).trans h16).trans h23).trans h24).trans h25).trans h26).size) (Reads.of_row (r25.ext h26) rfl (by decide)) (spC_one _) (by first | omega | (simp only [List.length_append, List.length_cons, List.length_nil]; omega)) (by unfold maxLen; first | omega | (simp only [List.length_append, List.length_cons, List.length_nil]; omega)) (fun v27 w27 o27 g27 n27 => ?_)
          have e27 := ((((((((hE.trans h10).trans e14).trans h15).trans h16).trans h23).trans h24).trans h25).trans h26).grown g27 (fun k hk => Nat.le_trans (Nat.le_succ_of_le h1.size) (o26.lt k hk).1)
          have z27 : w27.ownsRow (w1.heap.size + 1) 24 2 v27 (q.out ++ [q.s]).length (spCs (q.out ++ [q.s])) := by rw [List.length_append, spCs_snoc]; exact o27
          have hbs := Nat.le_trans (Nat.le_trans hbs h26.size) g27.size
          refine ER.bar rfl rfl rfl rfl (fun w28 h28 => ?_)  -- 12.7: t68 := call
          have o28 := (Ext.own z27 h28)
          refine Stp.append Try.underlying22 inf24 rfl (by decide) rfl rfl o28 (Nat.le_trans hbs h28.size) ((hl.ext (e27.trans h28)).drop hk) (spCs_one _) (by first | omega | (simp only [List.length_append, List.length_cons, List.length_nil]; omega)) (by unfold maxLen; first | omega | (simp only [List.length_append, List.length_cons, List.length_nil]; omega)) (fun v29 w29 o29 g29 n29 => ?_)
          have e29 := (e27.trans h28).grown g29 (fun k hk => Nat.le_trans (Nat.le_succ_of_le h1.size) (o28.lt k hk).1)
          refine ER.sil rfl rfl rfl rfl (Sil.assign rfl) ?_  -- 12.8: t4 := assign
          refine ER.nil (fun w30 h30 => ?_)
          refine AQ.then ?_
          refine EC.ret ?_
          refine AQ.blockRet ?_
          refine AQ.blockRet ?_
          refine AQ.thenRet ?_
          refine AQ.thenRet ?_
          refine AQ.blockRet ?_
          refine AQ.thenRet ?_
          refine AQ.ret1 Try.results12 rfl ?_
          refine ⟨_, rfl, (e29.trans h30), ?_⟩
          rw [hadd, ← hgo]
          have hz := (Ext.own o29 h30)
          rw [← List.length_drop, ← List.length_append, ← spCs_append, Int.toNat_natCast, drop_gt hlt] at hz
          simpa using own_base hz (Nat.le_succ_of_le h1.size)
        ·
          rw [if_neg (of_decide_eq_false hb3)] at hgo
          refine EC.seq ?_
          -- region 7  room.go:42
          refine EC.region (fun i => [1, 0, 1, 0, 1, 1].getD i 0) [0, 1, 2, 3, 4, 5] rfl ?_
          refine ER.sil rfl rfl rfl rfl (Sil.fieldAddr Try.underlying24 rfl inf3 rfl) ?_  -- 7.0: t31 := fieldAddr
          refine ER.ex rfl rfl rfl rfl (Exa.load flat3 rfl ((r14.ext ((h15.trans h16).trans h23)).cell rfl)) ?_  -- 7.1: t32 := load
          refine ER.sil rfl rfl rfl rfl (Sil.fieldAddr Try.underlying24 rfl inf3 rfl) ?_  -- 7.2: t33 := fieldAddr
          refine ER.ex rfl rfl rfl rfl (Exa.load flat3 rfl ((q3.ext ((((h10.trans e14).trans h15).trans h16).trans h23)).cell rfl)) ?_  -- 7.3: t34 := load
          refine ER.sil rfl rfl rfl rfl (Sil.min rfl rfl) ?_  -- 7.4: t35 := call
          refine ER.sil rfl rfl rfl rfl (Sil.assign rfl) ?_  -- 7.5: t8 := assign
          refine ER.nil (fun w31 h31 => ?_)
          refine AQ.then ?_
          -- region 8  room.go:43
          refine EC.draw (fun i => [1, 0, 0, 0, 0, 1, 1, 1, 1, 3].getD i 0) [0, 1, 2, 3, 4, 5, 6, 7, 8, 9] (by kernel_rfl) (by kernel_rfl) ?_
          refine ER.sil rfl rfl rfl rfl (Sil.move rfl) ?_  -- 8.0: t36 := move
          refine ER.ex rfl rfl rfl rfl (Exa.loadAgg (vs := spC (gt l q.k)) agg24 rfl ((r14.ext (((h15.trans h16).trans h23).trans h31)).at)) ?_  -- 8.1: t37 := load
          refine ER.ex rfl rfl rfl rfl (Exa.call fok26 rfl rfl (fun wx hx => (end_any (gt l q.k) wx))) ?_  -- 8.2: t38 := call
          refine ER.ex rfl rfl rfl rfl (Exa.loadAgg (vs := spC q.s) agg24 rfl ((q3.ext (((((h10.trans e14).trans h15).trans h16).trans h23).trans h31)).at)) ?_  -- 8.3: t39 := load
          refine ER.ex rfl rfl rfl rfl (Exa.call fok26 rfl rfl (fun wx hx => (end_any q.s wx))) ?_  -- 8.4: t40 := call
          refine ER.sil rfl rfl rfl rfl (Sil.max rfl rfl) ?_  -- 8.5: t41 := call
          refine ER.sil rfl rfl rfl rfl (Sil.move rfl) ?_  -- 8.6: t42 := move
          refine ER.sil rfl rfl rfl rfl (Sil.sub rfl rfl) ?_  -- 8.7: t43 := binOp
          refine ER.sil rfl rfl rfl rfl (Sil.build rfl rfl) ?_  -- 8.8: t44 := build
          refine ER.bar rfl rfl rfl rfl (fun w32 h32 => Stp.store (by kernel_rfl) rfl rfl (q3.ext ((((((h10.trans e14).trans h15).trans h16).trans h23).trans h31).trans h32)) rfl rfl (fun w33 u33 r33 => ?_))  -- 8.9: tNone := store
          have b33 := (((((((hE.trans h10).trans e14).trans h15).trans h16).trans h23).trans h31).trans h32).upd u33 h1.size
          have y33_out := u33.own (Ext.own out ((((((h10.trans e14).trans h15).trans h16).trans h23).trans h31).trans h32)) (Nat.lt_succ_self _)
          refine ER.nil (fun w34 h34 => ?_)
          refine AQ.blockNormal ?_
          refine AQ.blockNormal ?_
          refine AQ.then ?_
          -- region 13  room.go:35
          refine EC.region (fun i => [1, 1].getD i 0) [0, 1] rfl ?_
          refine ER.sil rfl rfl rfl rfl (Sil.add rfl rfl) ?_  -- 13.0: t69 := binOp
          refine ER.sil rfl rfl rfl rfl (Sil.move rfl) ?_  -- 13.1: t26 := move
          refine ER.nil (fun w35 h35 => ?_)
          refine AQ.round ⟨q.k + 1, q.out, mergeS (gt l q.k) q.s, q.v⟩ [0, 3, 5, 24, 25, 26] (by rw [wrap_succ hlt hm]; rfl) ⟨((b33.trans h34).trans h35), hlt, (r33.ext (h34.trans h35)), (Ext.own y33_out (h34.trans h35)), hgo, Nat.le_succ_of_le hol⟩ (by simp only; omega)
    ·
      refine EC.exit ?_
      refine AQ.thenExit ?_
      refine AQ.thenExit ?_
      refine AQ.blockHit ?_
      refine AQ.then ?_
      refine EC.seq ?_
      -- region 14  room.go:46
      refine EC.region (fun i => [1, 0, 2, 3, 1].getD i 0) [0, 1, 2, 3, 4] rfl ?_
      refine ER.sil rfl rfl rfl rfl (Sil.move rfl) ?_  -- 14.0: t70 := move
      refine ER.ex rfl rfl rfl rfl (Exa.loadAgg (vs := spC q.s) agg24 rfl ((q3.ext h10).at)) ?_  -- 14.1: t71 := load
      refine ER.st rfl rfl rfl rfl (fun w36 h36 => Stp.buildAll [_] Try.underlying22 inf24 rfl rfl rfl rfl rfl rfl (fun w37 h37 s37 r37 => ⟨h37, ?_⟩))  -- 14.2: t72 := buildSlice
      refine ER.bar rfl rfl rfl rfl (fun w38 h38 => ?_)  -- 14.3: t73 := call
      have o38 := (Ext.own out (((h10.trans h36).trans h37).trans h38))
      refine Stp.append Try.underlying22 inf24 rfl (by decide) rfl rfl o38 (Nat.le_trans q3.lt (((h10.trans h36).trans h37).trans h38).size) (Reads.of_row (r37.ext h38) rfl (by decide)) (spC_one _) (by first | omega | (simp only [List.length_append, List.length_cons, List.length_nil]; omega)) (by unfold maxLen; first | omega | (simp only [List.length_append, List.length_cons, List.length_nil]; omega)) (fun v39 w39 o39 g39 n39 => ?_)
      have e39 := ((((hE.trans h10).trans h36).trans h37).trans h38).grown g39 (fun k hk => Nat.le_trans (Nat.le_succ_of_le h1.size) (o38.lt k hk).1)
      have z39 : w39.ownsRow (w1.heap.size + 1) 24 2 v39 (q.out ++ [q.s]).length (spCs (q.out ++ [q.s])) := by rw [List.length_append, spCs_snoc]; exact o39
      refine ER.sil rfl rfl rfl rfl (Sil.assign rfl) ?_  -- 14.4: t4 := assign
      refine ER.nil (fun w40 h40 => ?_)
      refine AQ.then ?_
      refine EC.ret ?_
      refine AQ.ret1 Try.results12 rfl ?_
      have hge : q.k = l.length := by have : ¬ ((q.k : Int) < l.length) := (by simpa using hb1); omega
      refine ⟨_, rfl, (e39.trans h40), ?_⟩
      rw [hadd, ← hgo, hge, List.drop_length]
      exact own_base (Ext.own z39 h40) (Nat.le_succ_of_le h1.size)

end Go.Proofs.Ytnnmeipmkfbpdaa
