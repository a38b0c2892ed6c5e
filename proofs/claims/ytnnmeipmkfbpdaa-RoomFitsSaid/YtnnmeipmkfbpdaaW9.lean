/- Room: the reference's Of. -/
import Derived.Test.YtnnmeipmkfbpdaaW8
namespace Go.Proofs.Ytnnmeipmkfbpdaa
open Go.RowKit Go.XK Go.RoomLaw

structure OfS where
  k : Nat
  v : Value

-- linchpin/linchpinref04.Of: parameters ['[]api.Span', 'api.Span', 'bool'] (free 0), results [('ResultVar.tmp', 6)], 120 slots
theorem refOf_any (l : List Sp) (v : Value) (s : Sp) (add : Bool) (w : World) (hl : Spans w v l) (hn : l.length ≤ 400) :
    Calls Try.prog 30 [v, spV s, .bool add].toArray w fun e w' => ∃ v', e = .returned v' ∧ Ext w w' ∧ w'.ownsRow w.heap.size 24 2 v' (ofL l s add).length (spCs (ofL l s add)) := by
  refine calls_of Try.func30 rfl Try.ntmps30 rfl ?_
  refine EC.seq ?_
  -- region 0  ref.go:52
  refine EC.region (fun i => [2, 1].getD i 0) [0, 1] rfl ?_
  refine ER.st rfl rfl rfl rfl (fun w1 h1 => Stp.box rfl (fun w2 h2 s2 r2 => ⟨h2, ?_⟩))  -- 0.0: t4 := box
  refine ER.sil rfl rfl rfl rfl (Sil.assign rfl) ?_  -- 0.1: t6 := assign
  refine ER.nil (fun w3 h3 => ?_)
  refine AQ.then ?_
  refine EC.join (σ := Value) (fun ve => [(0, v), (2, .bool add), (4, .pointer (some ⟨w1.heap.size, 0, none⟩)), (7, ve)]) (fun ve wj => Ext w wj ∧ Row wj w1.heap.size 24 (spC s) ∧ Ints wj ve (endsL (l ++ [s]))) ?_ (fun ve wj hF => ?_)
  ·
    -- region 1  ref.go:53
    refine EC.drawA (fun i => [2, 1, 2, 0, 2, 3, 2, 1].getD i 0) (by kernel_rfl) 8 rfl ?_
    refine EA.take 1 (by kernel_rfl) ?_
    intro c4
    refine EX.sil rfl rfl rfl rfl (Sil.move rfl) ?_  -- 1.1: t14 := move
    refine EA.back c4 ?_
    refine EA.take 3 (by kernel_rfl) ?_
    intro c5
    refine EX.ex rfl rfl rfl rfl (Exa.loadAgg (vs := spC s) agg24 rfl ((r2.ext h3).at)) ?_  -- 1.3: t16 := load
    refine EA.back c5 ?_
    refine EA.two 0 4 (by kernel_rfl) ?_ ?_
    ·
      intro c6
      have hp13 := (r2.ext h3).lt
      refine EX.st rfl rfl rfl rfl (fun w7 h7 => Stp.buildNil Try.underlying22 inf24 (fun w8 h8 s8 r8 => ⟨h8, ?_⟩))  -- 1.0: t13 := buildSlice
      have z8 := h7.size
      have hq13 := Nat.le_trans hp13 h7.size
      refine EA.back c6 ?_
      refine EA.two 2 4 (by kernel_rfl) ?_ ?_
      ·
        intro c9
        refine EX.st rfl rfl rfl rfl (fun w10 h10 => ?_)  -- 1.2: t15 := call
        refine Stp.appendNew Try.underlying22 inf24 rfl rfl rfl (r8.ext h10) (hq13) (hl.ext (((((h1.trans h2).trans h3).trans h7).trans h8).trans h10)) (by first | omega | (simp only [List.length_append, List.length_cons, List.length_nil]; omega)) (by unfold maxLen; first | omega | (simp only [List.length_append, List.length_cons, List.length_nil]; omega)) (fun v11 w11 h11 o11 => ⟨h11, ?_⟩)
        refine EA.back c9 ?_
        refine EA.only 4 (by kernel_rfl) ?_
        intro c12
        refine EX.st rfl rfl rfl rfl (fun w13 h13 => Stp.buildAll [_] Try.underlying22 inf24 rfl rfl rfl rfl rfl rfl (fun w14 h14 s14 r14 => ⟨h14, ?_⟩))  -- 1.4: t17 := buildSlice
        have z14 := h13.size
        refine EA.back c12 ?_
        refine EA.only 5 (by kernel_rfl) ?_
        intro c15
        refine EX.bar rfl rfl rfl rfl (fun w16 h16 => ?_)  -- 1.5: t18 := call
        have o16 := (Ext.own o11 ((h13.trans h14).trans h16))
        refine Stp.append Try.underlying22 inf24 rfl (by decide) rfl rfl o16 ((r2.ext (((((((h3.trans h7).trans h8).trans h10).trans h11).trans h13).trans h14).trans h16)).lt) (Reads.of_row (r14.ext h16) rfl (by decide)) (spC_one s) (by first | omega | (simp only [List.length_append, List.length_cons, List.length_nil]; omega)) (by unfold maxLen; first | omega | (simp only [List.length_append, List.length_cons, List.length_nil]; omega)) (fun v17 w17 o17 g17 n17 => ?_)
        have e17 := (((((((((h1.trans h2).trans h3).trans h7).trans h8).trans h10).trans h11).trans h13).trans h14).trans h16).grown g17 (fun k hk => Nat.le_trans (Nat.le_succ_of_le h1.size) (o16.lt k hk).1)
        have x17_4 := (r2.ext (((((((h3.trans h7).trans h8).trans h10).trans h11).trans h13).trans h14).trans h16)).grown g17 (own_ne o16 (Nat.lt_succ_self _))
        have z17 : w17.ownsRow (w1.heap.size + 1) 24 2 v17 (l ++ [s]).length (spCs (l ++ [s])) := by rw [List.length_append, spCs_snoc]; exact o17
        refine EA.back c15 ?_
        refine EA.only 6 (by kernel_rfl) ?_
        intro c18
        refine EX.st rfl rfl rfl rfl (fun w19 h19 => Stp.call fok36 rfl rfl (Calls.mono ((refEnds_any (l ++ [s]) _ w19 ((Spans.of_own z17).ext h19) (by simp; omega))) ?_))  -- 1.6: t19 := call
        rintro _ w20 ⟨v20, rfl, h20, p320⟩
        refine ⟨v20, rfl, h20, ?_⟩
        refine EA.back c18 ?_
        refine EA.take 7 (by kernel_rfl) ?_
        intro c21
        refine EX.sil rfl rfl rfl rfl (Sil.assign rfl) ?_  -- 1.7: t7 := assign
        refine EA.back c21 ?_
        refine EA.nil (by kernel_rfl) (fun w22 h22 => ?_)
        refine AQ.join _ [0, 2, 4, 7] rfl ⟨(((e17.trans h19).trans h20).trans h22), (x17_4.ext ((h19.trans h20).trans h22)), Ints.of_own (Ext.own p320 h22)⟩
      ·
        intro c23
        refine EX.st rfl rfl rfl rfl (fun w24 h24 => Stp.buildAll [_] Try.underlying22 inf24 rfl rfl rfl rfl rfl rfl (fun w25 h25 s25 r25 => ⟨h25, ?_⟩))  -- 1.4: t17 := buildSlice
        have z25 := h24.size
        refine EA.back c23 ?_
        refine EA.only 2 (by kernel_rfl) ?_
        intro c26
        refine EX.st rfl rfl rfl rfl (fun w27 h27 => ?_)  -- 1.2: t15 := call
        refine Stp.appendNew Try.underlying22 inf24 rfl rfl rfl (r8.ext ((h24.trans h25).trans h27)) (hq13) (hl.ext (((((((h1.trans h2).trans h3).trans h7).trans h8).trans h24).trans h25).trans h27)) (by first | omega | (simp only [List.length_append, List.length_cons, List.length_nil]; omega)) (by unfold maxLen; first | omega | (simp only [List.length_append, List.length_cons, List.length_nil]; omega)) (fun v28 w28 h28 o28 => ⟨h28, ?_⟩)
        refine EA.back c26 ?_
        refine EA.only 5 (by kernel_rfl) ?_
        intro c29
        refine EX.bar rfl rfl rfl rfl (fun w30 h30 => ?_)  -- 1.5: t18 := call
        have o30 := (Ext.own o28 h30)
        refine Stp.append Try.underlying22 inf24 rfl (by decide) rfl rfl o30 ((r2.ext (((((((h3.trans h7).trans h8).trans h24).trans h25).trans h27).trans h28).trans h30)).lt) (Reads.of_row (r25.ext ((h27.trans h28).trans h30)) rfl (by decide)) (spC_one s) (by first | omega | (simp only [List.length_append, List.length_cons, List.length_nil]; omega)) (by unfold maxLen; first | omega | (simp only [List.length_append, List.length_cons, List.length_nil]; omega)) (fun v31 w31 o31 g31 n31 => ?_)
        have e31 := (((((((((h1.trans h2).trans h3).trans h7).trans h8).trans h24).trans h25).trans h27).trans h28).trans h30).grown g31 (fun k hk => Nat.le_trans (Nat.le_succ_of_le h1.size) (o30.lt k hk).1)
        have x31_4 := (r2.ext (((((((h3.trans h7).trans h8).trans h24).trans h25).trans h27).trans h28).trans h30)).grown g31 (own_ne o30 (Nat.lt_succ_self _))
        have z31 : w31.ownsRow (w1.heap.size + 1) 24 2 v31 (l ++ [s]).length (spCs (l ++ [s])) := by rw [List.length_append, spCs_snoc]; exact o31
        refine EA.back c29 ?_
        refine EA.only 6 (by kernel_rfl) ?_
        intro c32
        refine EX.st rfl rfl rfl rfl (fun w33 h33 => Stp.call fok36 rfl rfl (Calls.mono ((refEnds_any (l ++ [s]) _ w33 ((Spans.of_own z31).ext h33) (by simp; omega))) ?_))  -- 1.6: t19 := call
        rintro _ w34 ⟨v34, rfl, h34, p334⟩
        refine ⟨v34, rfl, h34, ?_⟩
        refine EA.back c32 ?_
        refine EA.take 7 (by kernel_rfl) ?_
        intro c35
        refine EX.sil rfl rfl rfl rfl (Sil.assign rfl) ?_  -- 1.7: t7 := assign
        refine EA.back c35 ?_
        refine EA.nil (by kernel_rfl) (fun w36 h36 => ?_)
        refine AQ.join _ [0, 2, 4, 7] rfl ⟨(((e31.trans h33).trans h34).trans h36), (x31_4.ext ((h33.trans h34).trans h36)), Ints.of_own (Ext.own p334 h36)⟩
    ·
      intro c37
      refine EX.st rfl rfl rfl rfl (fun w38 h38 => Stp.buildAll [_] Try.underlying22 inf24 rfl rfl rfl rfl rfl rfl (fun w39 h39 s39 r39 => ⟨h39, ?_⟩))  -- 1.4: t17 := buildSlice
      have z39 := h38.size
      refine EA.back c37 ?_
      refine EA.only 0 (by kernel_rfl) ?_
      intro c40
      have hp13 := (r2.ext ((h3.trans h38).trans h39)).lt
      refine EX.st rfl rfl rfl rfl (fun w41 h41 => Stp.buildNil Try.underlying22 inf24 (fun w42 h42 s42 r42 => ⟨h42, ?_⟩))  -- 1.0: t13 := buildSlice
      have z42 := h41.size
      have hq13 := Nat.le_trans hp13 h41.size
      refine EA.back c40 ?_
      refine EA.only 2 (by kernel_rfl) ?_
      intro c43
      refine EX.st rfl rfl rfl rfl (fun w44 h44 => ?_)  -- 1.2: t15 := call
      refine Stp.appendNew Try.underlying22 inf24 rfl rfl rfl (r42.ext h44) (hq13) (hl.ext (((((((h1.trans h2).trans h3).trans h38).trans h39).trans h41).trans h42).trans h44)) (by first | omega | (simp only [List.length_append, List.length_cons, List.length_nil]; omega)) (by unfold maxLen; first | omega | (simp only [List.length_append, List.length_cons, List.length_nil]; omega)) (fun v45 w45 h45 o45 => ⟨h45, ?_⟩)
      refine EA.back c43 ?_
      refine EA.only 5 (by kernel_rfl) ?_
      intro c46
      refine EX.bar rfl rfl rfl rfl (fun w47 h47 => ?_)  -- 1.5: t18 := call
      have o47 := (Ext.own o45 h47)
      refine Stp.append Try.underlying22 inf24 rfl (by decide) rfl rfl o47 ((r2.ext (((((((h3.trans h38).trans h39).trans h41).trans h42).trans h44).trans h45).trans h47)).lt) (Reads.of_row (r39.ext ((((h41.trans h42).trans h44).trans h45).trans h47)) rfl (by decide)) (spC_one s) (by first | omega | (simp only [List.length_append, List.length_cons, List.length_nil]; omega)) (by unfold maxLen; first | omega | (simp only [List.length_append, List.length_cons, List.length_nil]; omega)) (fun v48 w48 o48 g48 n48 => ?_)
      have e48 := (((((((((h1.trans h2).trans h3).trans h38).trans h39).trans h41).trans h42).trans h44).trans h45).trans h47).grown g48 (fun k hk => Nat.le_trans (Nat.le_succ_of_le h1.size) (o47.lt k hk).1)
      have x48_4 := (r2.ext (((((((h3.trans h38).trans h39).trans h41).trans h42).trans h44).trans h45).trans h47)).grown g48 (own_ne o47 (Nat.lt_succ_self _))
      have z48 : w48.ownsRow (w1.heap.size + 1) 24 2 v48 (l ++ [s]).length (spCs (l ++ [s])) := by rw [List.length_append, spCs_snoc]; exact o48
      refine EA.back c46 ?_
      refine EA.only 6 (by kernel_rfl) ?_
      intro c49
      refine EX.st rfl rfl rfl rfl (fun w50 h50 => Stp.call fok36 rfl rfl (Calls.mono ((refEnds_any (l ++ [s]) _ w50 ((Spans.of_own z48).ext h50) (by simp; omega))) ?_))  -- 1.6: t19 := call
      rintro _ w51 ⟨v51, rfl, h51, p351⟩
      refine ⟨v51, rfl, h51, ?_⟩
      refine EA.back c49 ?_
      refine EA.take 7 (by kernel_rfl) ?_
      intro c52
      refine EX.sil rfl rfl rfl rfl (Sil.assign rfl) ?_  -- 1.7: t7 := assign
      refine EA.back c52 ?_
      refine EA.nil (by kernel_rfl) (fun w53 h53 => ?_)
      refine AQ.join _ [0, 2, 4, 7] rfl ⟨(((e48.trans h50).trans h51).trans h53), (x48_4.ext ((h50.trans h51).trans h53)), Ints.of_own (Ext.own p351 h53)⟩
  obtain ⟨hE0, q4, hIe⟩ := hF
  have hlj := hl.ext hE0
  have hEL := endsL_length (l ++ [s])
  simp only [List.length_append, List.length_cons, List.length_nil] at hEL
  refine EC.seq ?_
  -- region 2  ref.go:54
  refine EC.region (fun i => [1].getD i 0) [0] rfl ?_
  refine ER.sil rfl rfl rfl rfl (Sil.assign rfl) ?_  -- 2.0: t8 := assign
  refine ER.nil (fun w54 h54 => ?_)
  refine AQ.then ?_
  refine EC.seq ?_
  refine EC.seq ?_
  -- region 3  ref.go:55
  refine EC.region (fun i => [1].getD i 0) [0] rfl ?_
  refine ER.sil rfl rfl rfl rfl (Sil.assign rfl) ?_  -- 3.0: t9 := assign
  refine ER.nil (fun w55 h55 => ?_)
  refine AQ.then ?_
  refine EC.block ?_
  refine EC.loop (σ := OfS) (fun q => [(0, v), (2, .bool add), (4, .pointer (some ⟨w1.heap.size, 0, none⟩)), (7, ve), (8, q.v), (9, .int .i64 (q.k : Int))]) (fun q wr => Ext wj wr ∧ q.k ≤ (endsL (l ++ [s])).length - 1 ∧ wr.ownsRow wj.heap.size 24 2 q.v (ofTo l s add (endsL (l ++ [s])) q.k).length (spCs (ofTo l s add (endsL (l ++ [s])) q.k))) (fun q => (endsL (l ++ [s])).length - q.k) ⟨0, .slice none 0 0⟩ [0, 2, 4, 7, 8, 9] rfl ?_ (fun q wr hF => ?_)
  · exact ⟨(h54.trans h55), Nat.zero_le _, World.ownsRow_nil _ _ _ _⟩
  obtain ⟨hE, hk, out⟩ := hF
  have hol := ofTo_length l s add (endsL (l ++ [s])) q.k
  have hk1 : IntKind.i64.wrap ((q.k : Int) + 1) = ((q.k + 1 : Nat) : Int) := by rw [IntWalk.i64_in _ (by omega)]; omega
  have ho : (ofTo l s add (endsL (l ++ [s])) q.k).length ≤ maxLen := by unfold maxLen; omega
  refine EC.seq ?_
  refine EC.seq ?_
  -- region 4  ref.go:55
  refine EC.region (fun i => [1, 1, 1, 1, 1].getD i 0) [0, 1, 2, 3, 4] rfl ?_
  refine ER.sil rfl rfl rfl rfl (Sil.move rfl) ?_  -- 4.0: t20 := move
  refine ER.sil rfl rfl rfl rfl (Sil.add rfl rfl) ?_  -- 4.1: t21 := binOp
  refine ER.sil rfl rfl rfl rfl (Sil.move rfl) ?_  -- 4.2: t22 := move
  refine ER.sil rfl rfl rfl rfl (Sil.lenR Try.underlying44 rfl (Reads.isS (hIe.ext hE))) ?_  -- 4.3: t23 := call
  refine ER.sil rfl rfl rfl rfl (Sil.lss rfl rfl) ?_  -- 4.4: t24 := binOp
  refine ER.nil (fun w56 h56 => ?_)
  refine AQ.then ?_
  refine EC.cond rfl (fun hb0 => ?_) (fun hb0 => ?_)  -- cond 0: t24
  ·
    have hlt : q.k + 1 < (endsL (l ++ [s])).length := by rw [hk1] at hb0; have := of_decide_eq_true hb0; omega
    refine EC.skip ?_
    refine AQ.then ?_
    refine EC.seq ?_
    refine EC.block ?_
    refine EC.seq ?_
    -- region 6  ref.go:56
    refine EC.region (fun i => [1, 1, 1, 1, 0, 0, 1].getD i 0) [0, 1, 2, 3, 4, 5, 6] rfl ?_
    refine ER.sil rfl rfl rfl rfl (Sil.move rfl) ?_  -- 6.0: t27 := move
    refine ER.sil rfl rfl rfl rfl (Sil.move rfl) ?_  -- 6.1: t28 := move
    refine ER.sil rfl rfl rfl rfl (Sil.move rfl) ?_  -- 6.2: t29 := move
    refine ER.sil rfl rfl rfl rfl (Sil.indexR Try.underlying44 inf3 rfl rfl (Reads.isE (hIe.ext (hE.trans h56)) (by omega)) (by omega) (by omega)) ?_  -- 6.3: t30 := indexAddr
    refine ER.ex rfl rfl rfl rfl (Exa.load flat3 rfl (Ints.cell (hIe.ext (hE.trans h56)) (show q.k < _ by omega))) ?_  -- 6.4: t31 := load
    refine ER.ex rfl rfl rfl rfl (Exa.call fok37 rfl rfl (fun wx hx => (refIn_any l v wx (hlj.ext ((hE.trans h56).trans hx)) _))) ?_  -- 6.5: t32 := call
    refine ER.sil rfl rfl rfl rfl (Sil.assign rfl) ?_  -- 6.6: t10 := assign
    refine ER.nil (fun w57 h57 => ?_)
    refine AQ.then ?_
    refine EC.seq ?_
    -- region 7  ref.go:57
    refine EC.draw (fun i => [0, 2, 1, 1, 1, 0, 0, 1].getD i 0) [0, 2, 3, 4, 5, 1, 6, 7] (by kernel_rfl) (by kernel_rfl) ?_
    refine ER.ex rfl rfl rfl rfl (Exa.loadAgg (vs := spC s) agg24 rfl ((q4.ext ((hE.trans h56).trans h57)).at)) ?_  -- 7.0: t33 := load
    refine ER.sil rfl rfl rfl rfl (Sil.move rfl) ?_  -- 7.2: t35 := move
    refine ER.sil rfl rfl rfl rfl (Sil.move rfl) ?_  -- 7.3: t36 := move
    refine ER.sil rfl rfl rfl rfl (Sil.indexR Try.underlying44 inf3 rfl rfl (Reads.isE (hIe.ext ((hE.trans h56).trans h57)) (by omega)) (by omega) (by omega)) ?_  -- 7.4: t37 := indexAddr
    refine ER.ex rfl rfl rfl rfl (Exa.load flat3 rfl (Ints.cell (hIe.ext ((hE.trans h56).trans h57)) (show q.k < _ by omega))) ?_  -- 7.5: t38 := load
    refine ER.st rfl rfl rfl rfl (fun w58 h58 => Stp.buildAll [_] Try.underlying22 inf24 rfl rfl rfl rfl rfl rfl (fun w59 h59 s59 r59 => ⟨h59, ?_⟩))  -- 7.1: t34 := buildSlice
    refine ER.ex rfl rfl rfl rfl (Exa.call fok37 rfl rfl (fun wx hx => (refIn_any [s] _ wx (Reads.of_row (r59.ext hx) rfl (show 1 ≤ maxLen by decide)) _))) ?_  -- 7.6: t39 := call
    refine ER.sil rfl rfl rfl rfl (Sil.assign rfl) ?_  -- 7.7: t11 := assign
    refine ER.nil (fun w60 h60 => ?_)
    refine AQ.then ?_
    refine EC.seq ?_
    refine EC.seq ?_
    -- region 8  ref.go:58
    refine EC.region (fun i => [1, 1, 1, 1, 1, 1, 1, 1, 1, 1, 1, 1, 1, 1, 1, 1, 1, 1, 1, 1].getD i 0) [0, 1, 2, 3, 4, 5, 6, 7, 8, 9, 10, 11, 12, 13, 14, 15, 16, 17, 18, 19] rfl ?_
    refine ER.sil rfl rfl rfl rfl (Sil.move rfl) ?_  -- 8.0: t40 := move
    refine ER.sil rfl rfl rfl rfl (Sil.move rfl) ?_  -- 8.1: t41 := move
    refine ER.silG rfl rfl rfl rfl rfl rfl (fun hc => Sil.move rfl) ?_  -- 8.2: t42 := move
    refine ER.silG rfl rfl rfl rfl rfl rfl (fun hc => Sil.not (congrArg some (sel_eq hc _))) ?_  -- 8.3: t43 := unOp
    refine ER.sil rfl rfl rfl rfl (Sil.pickAnd rfl rfl rfl) ?_  -- 8.4: t44 := pick
    refine ER.sil rfl rfl rfl rfl (Sil.move rfl) ?_  -- 8.5: t45 := move
    refine ER.silG rfl rfl rfl rfl rfl rfl (fun hc => Sil.move rfl) ?_  -- 8.6: t46 := move
    refine ER.silG rfl rfl rfl rfl rfl rfl (fun hc => Sil.not (congrArg some (sel_eq hc _))) ?_  -- 8.7: t47 := unOp
    refine ER.sil rfl rfl rfl rfl (Sil.pickAnd rfl rfl rfl) ?_  -- 8.8: t48 := pick
    refine ER.sil rfl rfl rfl rfl (Sil.move rfl) ?_  -- 8.9: t49 := move
    refine ER.silG rfl rfl rfl rfl rfl rfl (fun hc => Sil.move rfl) ?_  -- 8.10: t50 := move
    refine ER.silG rfl rfl rfl rfl rfl rfl (fun hc => Sil.not (congrArg some (sel_eq hc _))) ?_  -- 8.11: t51 := unOp
    refine ER.silG rfl rfl rfl rfl rfl rfl (fun hc => Sil.move (congrArg some (sel_eq hc _))) ?_  -- 8.12: t52 := move
    refine ER.silGG rfl rfl rfl rfl rfl rfl (fun hp hc => Sil.move rfl) ?_  -- 8.13: t53 := move
    refine ER.silGG rfl rfl rfl rfl rfl rfl (fun hp hc => Sil.not (congrArg some (sel_2 hp hc _))) ?_  -- 8.14: t54 := unOp
    refine ER.silGG rfl rfl rfl rfl rfl rfl (fun hp hc => Sil.move (congrArg some (sel_2 hp hc _))) ?_  -- 8.15: t55 := move
    refine ER.silGG rfl rfl rfl rfl rfl rfl (fun hp hc => Sil.move rfl) ?_  -- 8.16: t56 := move
    refine ER.silGG rfl rfl rfl rfl rfl rfl (fun hp hc => Sil.pickOr (congrArg some (sel_2 hp hc _)) rfl (congrArg some (sel_in2 hp hc _ _))) ?_  -- 8.17: t57 := pick
    refine ER.silG rfl rfl rfl rfl rfl rfl (fun hc => Sil.pickAnd (congrArg some (sel_eq hc _)) (congrArg some (sel_in hc _ _)) rfl) ?_  -- 8.18: t58 := pick
    refine ER.sil rfl rfl rfl rfl (Sil.pickOr rfl rfl rfl) ?_  -- 8.19: t59 := pick
    refine ER.nil (fun w61 h61 => ?_)
    refine AQ.then ?_
    refine EC.cond rfl (fun hb1 => ?_) (fun hb1 => ?_)  -- cond 1: t59
    ·
      have hb1 : skipB add (inB l (gi (endsL (l ++ [s])) q.k)) (inB [s] (gi (endsL (l ++ [s])) q.k)) = true := hb1
      have hst : ofTo l s add (endsL (l ++ [s])) (q.k + 1) = (ofTo l s add (endsL (l ++ [s])) q.k) := by rw [ofTo, stepOf, if_pos hb1]
      refine EC.exit ?_
      refine AQ.thenExit ?_
      refine AQ.blockHit ?_
      refine AQ.then ?_
      -- region 5  ref.go:55
      refine EC.region (fun i => [1, 1, 1].getD i 0) [0, 1, 2] rfl ?_
      refine ER.sil rfl rfl rfl rfl (Sil.move rfl) ?_  -- 5.0: t25 := move
      refine ER.sil rfl rfl rfl rfl (Sil.add rfl rfl) ?_  -- 5.1: t26 := binOp
      refine ER.sil rfl rfl rfl rfl (Sil.assign rfl) ?_  -- 5.2: t9 := assign
      refine ER.nil (fun w62 h62 => ?_)
      refine AQ.round ⟨q.k + 1, q.v⟩ [0, 2, 4, 7, 8, 9] (by rw [hk1]; rfl) ⟨(((((((hE.trans h56).trans h57).trans h58).trans h59).trans h60).trans h61).trans h62), by simp only; omega, by simp only [hst]; exact (Ext.own out ((((((h56.trans h57).trans h58).trans h59).trans h60).trans h61).trans h62))⟩ (by simp only; omega)
    ·
      have hb1 : skipB add (inB l (gi (endsL (l ++ [s])) q.k)) (inB [s] (gi (endsL (l ++ [s])) q.k)) = false := hb1
      refine EC.skip ?_
      refine AQ.then ?_
      refine EC.seq ?_
      -- region 9  ref.go:61
      refine EC.region (fun i => [1, 1, 1].getD i 0) [0, 1, 2] rfl ?_
      refine ER.sil rfl rfl rfl rfl (Sil.move rfl) ?_  -- 9.0: t60 := move
      refine ER.sil rfl rfl rfl rfl (Sil.lenR Try.underlying22 rfl (Reads.isS (Spans.of_own (Ext.own out (((((h56.trans h57).trans h58).trans h59).trans h60).trans h61))))) ?_  -- 9.1: t61 := call
      refine ER.sil rfl rfl rfl rfl (Sil.assign rfl) ?_  -- 9.2: t12 := assign
      refine ER.nil (fun w63 h63 => ?_)
      refine AQ.then ?_
      refine EC.seq ?_
      refine EC.seq ?_
      -- region 10  ref.go:62
      refine EC.draw (fun i => [1, 1, 1, 1, 1, 1, 1, 1, 0, 1, 1, 1, 1, 1, 0, 1, 1, 1, 1, 0, 1, 1].getD i 0) [0, 1, 2, 3, 4, 5, 6, 7, 8, 9, 10, 11, 12, 13, 14, 15, 16, 17, 18, 19, 20, 21] (by kernel_rfl) (by kernel_rfl) ?_
      refine ER.sil rfl rfl rfl rfl (Sil.move rfl) ?_  -- 10.0: t62 := move
      refine ER.sil rfl rfl rfl rfl (Sil.gtr rfl rfl) ?_  -- 10.1: t63 := binOp
      refine ER.sil rfl rfl rfl rfl (Sil.move rfl) ?_  -- 10.2: t64 := move
      refine ER.silG rfl rfl rfl rfl rfl rfl (fun hc => Sil.move rfl) ?_  -- 10.3: t65 := move
      refine ER.silG rfl rfl rfl rfl rfl rfl (fun hc => Sil.move rfl) ?_  -- 10.4: t66 := move
      refine ER.silG rfl rfl rfl rfl rfl rfl (fun hc => Sil.sub (congrArg some (sel_eq hc _)) rfl) ?_  -- 10.5: t67 := binOp
      refine ER.silG rfl rfl rfl rfl rfl rfl (fun hc => Sil.indexR Try.underlying22 inf24 (congrArg some (sel_eq hc _)) (congrArg some (sel_eq hc _)) (Reads.isE (Spans.of_own (Ext.own out ((((((h56.trans h57).trans h58).trans h59).trans h60).trans h61).trans h63))) (by have h0 : (0 : Int) < (ofTo l s add (endsL (l ++ [s])) q.k).length := of_decide_eq_true hc; omega)) (by have h0 : (0 : Int) < (ofTo l s add (endsL (l ++ [s])) q.k).length := of_decide_eq_true hc; rw [wrap_pred (Nat.le_refl _) ho (by omega)]; omega) (by have h0 : (0 : Int) < (ofTo l s add (endsL (l ++ [s])) q.k).length := of_decide_eq_true hc; rw [wrap_pred (Nat.le_refl _) ho (by omega)]; omega)) ?_  -- 10.6: t68 := indexAddr
      refine ER.silG rfl rfl rfl rfl rfl rfl (fun hc => Sil.fieldAddr Try.underlying24 rfl inf3 (congrArg some (sel_eq hc _))) ?_  -- 10.7: t69 := fieldAddr
      refine ER.exG rfl rfl rfl rfl rfl rfl (fun hc => Exa.load flat3 (congrArg some (sel_eq hc _)) (by have h0 : (0 : Int) < (ofTo l s add (endsL (l ++ [s])) q.k).length := of_decide_eq_true hc; rw [wrap_pred (Nat.le_refl _) ho (by omega)]; exact (Spans.elem (Spans.of_own (Ext.own out ((((((h56.trans h57).trans h58).trans h59).trans h60).trans h61).trans h63))) (by omega)) 0 _ rfl)) ?_  -- 10.8: t70 := load
      refine ER.silG rfl rfl rfl rfl rfl rfl (fun hc => Sil.move rfl) ?_  -- 10.9: t71 := move
      refine ER.silG rfl rfl rfl rfl rfl rfl (fun hc => Sil.move rfl) ?_  -- 10.10: t72 := move
      refine ER.silG rfl rfl rfl rfl rfl rfl (fun hc => Sil.sub (congrArg some (sel_eq hc _)) rfl) ?_  -- 10.11: t73 := binOp
      refine ER.silG rfl rfl rfl rfl rfl rfl (fun hc => Sil.indexR Try.underlying22 inf24 (congrArg some (sel_eq hc _)) (congrArg some (sel_eq hc _)) (Reads.isE (Spans.of_own (Ext.own out ((((((h56.trans h57).trans h58).trans h59).trans h60).trans h61).trans h63))) (by have h0 : (0 : Int) < (ofTo l s add (endsL (l ++ [s])) q.k).length := of_decide_eq_true hc; omega)) (by have h0 : (0 : Int) < (ofTo l s add (endsL (l ++ [s])) q.k).length := of_decide_eq_true hc; rw [wrap_pred (Nat.le_refl _) ho (by omega)]; omega) (by have h0 : (0 : Int) < (ofTo l s add (endsL (l ++ [s])) q.k).length := of_decide_eq_true hc; rw [wrap_pred (Nat.le_refl _) ho (by omega)]; omega)) ?_  -- 10.12: t74 := indexAddr
      refine ER.silG rfl rfl rfl rfl rfl rfl (fun hc => Sil.fieldAddr Try.underlying24 rfl inf3 (congrArg some (sel_eq hc _))) ?_  -- 10.13: t75 := fieldAddr
      refine ER.exG rfl rfl rfl rfl rfl rfl (fun hc => Exa.load flat3 (congrArg some (sel_eq hc _)) (by have h0 : (0 : Int) < (ofTo l s add (endsL (l ++ [s])) q.k).length := of_decide_eq_true hc; rw [wrap_pred (Nat.le_refl _) ho (by omega)]; exact (Spans.elem (Spans.of_own (Ext.own out ((((((h56.trans h57).trans h58).trans h59).trans h60).trans h61).trans h63))) (by omega)) 1 _ rfl)) ?_  -- 10.14: t76 := load
      refine ER.silG rfl rfl rfl rfl rfl rfl (fun hc => Sil.add (congrArg some (sel_eq hc _)) (congrArg some (sel_eq hc _))) ?_  -- 10.15: t77 := binOp
      refine ER.silG rfl rfl rfl rfl rfl rfl (fun hc => Sil.move rfl) ?_  -- 10.16: t78 := move
      refine ER.silG rfl rfl rfl rfl rfl rfl (fun hc => Sil.move rfl) ?_  -- 10.17: t79 := move
      refine ER.silG rfl rfl rfl rfl rfl rfl (fun hc => Sil.indexR Try.underlying44 inf3 (congrArg some (sel_eq hc _)) (congrArg some (sel_eq hc _)) (Reads.isE (hIe.ext (((((((hE.trans h56).trans h57).trans h58).trans h59).trans h60).trans h61).trans h63)) (by omega)) (by omega) (by omega)) ?_  -- 10.18: t80 := indexAddr
      refine ER.exG rfl rfl rfl rfl rfl rfl (fun hc => Exa.load flat3 (congrArg some (sel_eq hc _)) (Ints.cell (hIe.ext (((((((hE.trans h56).trans h57).trans h58).trans h59).trans h60).trans h61).trans h63)) (show q.k < _ by omega))) ?_  -- 10.19: t81 := load
      refine ER.silG rfl rfl rfl rfl rfl rfl (fun hc => Sil.eql (congrArg some (sel_eq hc _)) (congrArg some (sel_eq hc _))) ?_  -- 10.20: t82 := binOp
      refine ER.sil rfl rfl rfl rfl (Sil.pickAnd rfl rfl rfl) ?_  -- 10.21: t83 := pick
      refine ER.nil (fun w64 h64 => ?_)
      refine AQ.then ?_
      refine EC.cond rfl (fun hb2 => ?_) (fun hb2 => ?_)  -- cond 2: t83
      ·
        have hb2 : lastOK (ofTo l s add (endsL (l ++ [s])) q.k) (gi (endsL (l ++ [s])) q.k) = true := hb2
        have hst : ofTo l s add (endsL (l ++ [s])) (q.k + 1) = (ofTo l s add (endsL (l ++ [s])) q.k).set ((ofTo l s add (endsL (l ++ [s])) q.k).length - 1) ((gt (ofTo l s add (endsL (l ++ [s])) q.k) ((ofTo l s add (endsL (l ++ [s])) q.k).length - 1)).1, RoomLaw.w64 (gi (endsL (l ++ [s])) (q.k + 1) - (gt (ofTo l s add (endsL (l ++ [s])) q.k) ((ofTo l s add (endsL (l ++ [s])) q.k).length - 1)).1)) := by rw [ofTo, stepOf, if_neg (by rw [show skipB _ _ _ = false from hb1]; exact Bool.false_ne_true), if_pos (show lastOK _ _ = true from hb2)]
        refine EC.seq ?_
        -- region 11  ref.go:63
        have hpos : 0 < (ofTo l s add (endsL (l ++ [s])) q.k).length := by have := of_decide_eq_true (Bool.and_eq_true _ _ ▸ hb2 : _ ∧ _).1; omega
        have hadr : ofs q.v + (IntKind.i64.wrap (((ofTo l s add (endsL (l ++ [s])) q.k).length : Int) - 1)).toNat * 2 + 1 = ofs q.v + (((ofTo l s add (endsL (l ++ [s])) q.k).length - 1) * 2 + 1) := by rw [wrap_pred (Nat.le_refl _) ho (by omega)]; omega
        refine EC.draw (fun i => [1, 1, 1, 1, 1, 1, 1, 0, 1, 1, 1, 1, 1, 0, 1, 1, 1, 3].getD i 0) [0, 1, 2, 3, 4, 5, 6, 7, 8, 9, 10, 11, 12, 13, 14, 15, 16, 17] (by kernel_rfl) (by kernel_rfl) ?_
        refine ER.sil rfl rfl rfl rfl (Sil.move rfl) ?_  -- 11.0: t84 := move
        refine ER.sil rfl rfl rfl rfl (Sil.move rfl) ?_  -- 11.1: t85 := move
        refine ER.sil rfl rfl rfl rfl (Sil.sub rfl rfl) ?_  -- 11.2: t86 := binOp
        refine ER.sil rfl rfl rfl rfl (Sil.move rfl) ?_  -- 11.3: t87 := move
        refine ER.sil rfl rfl rfl rfl (Sil.move rfl) ?_  -- 11.4: t88 := move
        refine ER.sil rfl rfl rfl rfl (Sil.add rfl rfl) ?_  -- 11.5: t89 := binOp
        refine ER.sil rfl rfl rfl rfl (Sil.indexR Try.underlying44 inf3 rfl rfl (Reads.isE (hIe.ext ((((((((hE.trans h56).trans h57).trans h58).trans h59).trans h60).trans h61).trans h63).trans h64)) (by omega)) (by rw [hk1]; omega) (by rw [hk1]; omega)) ?_  -- 11.6: t90 := indexAddr
        refine ER.ex rfl rfl rfl rfl (Exa.load flat3 rfl (by rw [hk1]; exact Ints.cell (hIe.ext ((((((((hE.trans h56).trans h57).trans h58).trans h59).trans h60).trans h61).trans h63).trans h64)) hlt)) ?_  -- 11.7: t91 := load
        refine ER.sil rfl rfl rfl rfl (Sil.move rfl) ?_  -- 11.8: t92 := move
        refine ER.sil rfl rfl rfl rfl (Sil.move rfl) ?_  -- 11.9: t93 := move
        refine ER.sil rfl rfl rfl rfl (Sil.sub rfl rfl) ?_  -- 11.10: t94 := binOp
        refine ER.sil rfl rfl rfl rfl (Sil.indexR Try.underlying22 inf24 rfl rfl (Reads.isE (Spans.of_own (Ext.own out (((((((h56.trans h57).trans h58).trans h59).trans h60).trans h61).trans h63).trans h64))) hpos) (by rw [wrap_pred (Nat.le_refl _) ho (by omega)]; omega) (by rw [wrap_pred (Nat.le_refl _) ho (by omega)]; omega)) ?_  -- 11.11: t95 := indexAddr
        refine ER.sil rfl rfl rfl rfl (Sil.fieldAddr Try.underlying24 rfl inf3 rfl) ?_  -- 11.12: t96 := fieldAddr
        refine ER.ex rfl rfl rfl rfl (Exa.load flat3 rfl (by rw [wrap_pred (Nat.le_refl _) ho (by omega)]; exact (Spans.elem (Spans.of_own (Ext.own out (((((((h56.trans h57).trans h58).trans h59).trans h60).trans h61).trans h63).trans h64))) (by omega)) 0 _ rfl)) ?_  -- 11.13: t97 := load
        refine ER.sil rfl rfl rfl rfl (Sil.sub rfl rfl) ?_  -- 11.14: t98 := binOp
        refine ER.sil rfl rfl rfl rfl (Sil.indexR Try.underlying22 inf24 rfl rfl (Reads.isE (Spans.of_own (Ext.own out (((((((h56.trans h57).trans h58).trans h59).trans h60).trans h61).trans h63).trans h64))) hpos) (by rw [wrap_pred (Nat.le_refl _) ho (by omega)]; omega) (by rw [wrap_pred (Nat.le_refl _) ho (by omega)]; omega)) ?_  -- 11.15: t99 := indexAddr
        refine ER.sil rfl rfl rfl rfl (Sil.fieldAddr Try.underlying24 rfl inf3 rfl) ?_  -- 11.16: t100 := fieldAddr
        --  -- 11.17: tNone := store
        refine ER.bar rfl rfl rfl rfl (fun w65 h65 => Stp.storeOwn (c := ((ofTo l s add (endsL (l ++ [s])) q.k).length - 1) * 2 + 1) (by kernel_rfl) rfl rfl (Ext.own (Ext.own out (((((((h56.trans h57).trans h58).trans h59).trans h60).trans h61).trans h63).trans h64)) h65) (by rw [spCs_length]; omega) (by rw [← hadr]; rfl) rfl (fun w66 u66 o66 => ?_))
        have e66 := (((((((((hE.trans h56).trans h57).trans h58).trans h59).trans h60).trans h61).trans h63).trans h64).trans h65).upd u66 (own_blk (Ext.own out (((((((h56.trans h57).trans h58).trans h59).trans h60).trans h61).trans h63).trans h64)) hpos)
        rw [← spCs_set _ _ _ (by omega)] at o66
        refine ER.nil (fun w67 h67 => ?_)
        refine AQ.then ?_
        refine EC.exit ?_
        refine AQ.thenExit ?_
        refine AQ.blockHit ?_
        refine AQ.then ?_
        -- region 5  ref.go:55
        refine EC.region (fun i => [1, 1, 1].getD i 0) [0, 1, 2] rfl ?_
        refine ER.sil rfl rfl rfl rfl (Sil.move rfl) ?_  -- 5.0: t25 := move
        refine ER.sil rfl rfl rfl rfl (Sil.add rfl rfl) ?_  -- 5.1: t26 := binOp
        refine ER.sil rfl rfl rfl rfl (Sil.assign rfl) ?_  -- 5.2: t9 := assign
        refine ER.nil (fun w68 h68 => ?_)
        refine AQ.round ⟨q.k + 1, q.v⟩ [0, 2, 4, 7, 8, 9] (by rw [hk1]; rfl) ⟨((e66.trans h67).trans h68), by simp only; omega, ?_⟩ (by simp only; omega)
        simp only [hst, List.length_set]
        exact (Ext.own o66 (h67.trans h68))
      ·
        have hb2 : lastOK (ofTo l s add (endsL (l ++ [s])) q.k) (gi (endsL (l ++ [s])) q.k) = false := hb2
        have hst : ofTo l s add (endsL (l ++ [s])) (q.k + 1) = (ofTo l s add (endsL (l ++ [s])) q.k) ++ [(gi (endsL (l ++ [s])) q.k, RoomLaw.w64 (gi (endsL (l ++ [s])) (q.k + 1) - gi (endsL (l ++ [s])) q.k))] := by rw [ofTo, stepOf, if_neg (by rw [show skipB _ _ _ = false from hb1]; exact Bool.false_ne_true), if_neg (by rw [show lastOK _ _ = false from hb2]; exact Bool.false_ne_true)]
        refine EC.skip ?_
        refine AQ.then ?_
        -- region 12  ref.go:66
        refine EC.draw (fun i => [1, 1, 1, 1, 0, 1, 1, 1, 1, 0, 1, 1, 1, 0, 1, 1, 2, 3, 1].getD i 0) [0, 1, 2, 3, 4, 5, 6, 7, 8, 9, 10, 11, 12, 13, 14, 15, 16, 17, 18] (by kernel_rfl) (by kernel_rfl) ?_
        refine ER.sil rfl rfl rfl rfl (Sil.move rfl) ?_  -- 12.0: t101 := move
        refine ER.sil rfl rfl rfl rfl (Sil.move rfl) ?_  -- 12.1: t102 := move
        refine ER.sil rfl rfl rfl rfl (Sil.move rfl) ?_  -- 12.2: t103 := move
        refine ER.sil rfl rfl rfl rfl (Sil.indexR Try.underlying44 inf3 rfl rfl (Reads.isE (hIe.ext ((((((((hE.trans h56).trans h57).trans h58).trans h59).trans h60).trans h61).trans h63).trans h64)) (by omega)) (by omega) (by omega)) ?_  -- 12.3: t104 := indexAddr
        refine ER.ex rfl rfl rfl rfl (Exa.load flat3 rfl (Ints.cell (hIe.ext ((((((((hE.trans h56).trans h57).trans h58).trans h59).trans h60).trans h61).trans h63).trans h64)) (show q.k < _ by omega))) ?_  -- 12.4: t105 := load
        refine ER.sil rfl rfl rfl rfl (Sil.move rfl) ?_  -- 12.5: t106 := move
        refine ER.sil rfl rfl rfl rfl (Sil.move rfl) ?_  -- 12.6: t107 := move
        refine ER.sil rfl rfl rfl rfl (Sil.add rfl rfl) ?_  -- 12.7: t108 := binOp
        refine ER.sil rfl rfl rfl rfl (Sil.indexR Try.underlying44 inf3 rfl rfl (Reads.isE (hIe.ext ((((((((hE.trans h56).trans h57).trans h58).trans h59).trans h60).trans h61).trans h63).trans h64)) (by omega)) (by rw [hk1]; omega) (by rw [hk1]; omega)) ?_  -- 12.8: t109 := indexAddr
        refine ER.ex rfl rfl rfl rfl (Exa.load flat3 rfl (by rw [hk1]; exact Ints.cell (hIe.ext ((((((((hE.trans h56).trans h57).trans h58).trans h59).trans h60).trans h61).trans h63).trans h64)) hlt)) ?_  -- 12.9: t110 := load
        refine ER.sil rfl rfl rfl rfl (Sil.move rfl) ?_  -- 12.10: t111 := move
        refine ER.sil rfl rfl rfl rfl (Sil.move rfl) ?_  -- 12.11: t112 := move
        refine ER.sil rfl rfl rfl rfl (Sil.indexR Try.underlying44 inf3 rfl rfl (Reads.isE (hIe.ext ((((((((hE.trans h56).trans h57).trans h58).trans h59).trans h60).trans h61).trans h63).trans h64)) (by omega)) (by omega) (by omega)) ?_  -- 12.12: t113 := indexAddr
        refine ER.ex rfl rfl rfl rfl (Exa.load flat3 rfl (Ints.cell (hIe.ext ((((((((hE.trans h56).trans h57).trans h58).trans h59).trans h60).trans h61).trans h63).trans h64)) (show q.k < _ by omega))) ?_  -- 12.13: t114 := load
        refine ER.sil rfl rfl rfl rfl (Sil.sub rfl rfl) ?_  -- 12.14: t115 := binOp
        refine ER.sil rfl rfl rfl rfl (Sil.build rfl rfl) ?_  -- 12.15: t116 := build
        refine ER.st rfl rfl rfl rfl (fun w69 h69 => Stp.buildAll [_] Try.underlying22 inf24 rfl rfl rfl rfl rfl rfl (fun w70 h70 s70 r70 => ⟨h70, ?_⟩))  -- 12.16: t117 := buildSlice
        refine ER.bar rfl rfl rfl rfl (fun w71 h71 => ?_)  -- 12.17: t118 := call
        have o71 := (Ext.own out ((((((((((h56.trans h57).trans h58).trans h59).trans h60).trans h61).trans h63).trans h64).trans h69).trans h70).trans h71))
        refine Stp.append Try.underlying22 inf24 rfl (by decide) rfl rfl o71 ((((((((((((hE.trans h56).trans h57).trans h58).trans h59).trans h60).trans h61).trans h63).trans h64).trans h69).trans h70).trans h71).size) (Reads.of_row (r70.ext h71) rfl (by decide)) (spC_one (_, _)) (by first | omega | (simp only [List.length_append, List.length_cons, List.length_nil]; omega)) (by unfold maxLen; first | omega | (simp only [List.length_append, List.length_cons, List.length_nil]; omega)) (fun v72 w72 o72 g72 n72 => ?_)
        have e72 := (((((((((((hE.trans h56).trans h57).trans h58).trans h59).trans h60).trans h61).trans h63).trans h64).trans h69).trans h70).trans h71).grown g72 (fun k hk => Nat.le_trans (Nat.le_refl _) (o71.lt k hk).1)
        have z72 : w72.ownsRow wj.heap.size 24 2 v72 ((ofTo l s add (endsL (l ++ [s])) q.k) ++ [(gi (endsL (l ++ [s])) q.k, RoomLaw.w64 (gi (endsL (l ++ [s])) (q.k + 1) - gi (endsL (l ++ [s])) q.k))]).length (spCs ((ofTo l s add (endsL (l ++ [s])) q.k) ++ [(gi (endsL (l ++ [s])) q.k, RoomLaw.w64 (gi (endsL (l ++ [s])) (q.k + 1) - gi (endsL (l ++ [s])) q.k))])) := by rw [List.length_append, spCs_snoc]; exact o72
        refine ER.sil rfl rfl rfl rfl (Sil.assign rfl) ?_  -- 12.18: t8 := assign
        refine ER.nil (fun w73 h73 => ?_)
        refine AQ.blockNormal ?_
        refine AQ.then ?_
        -- region 5  ref.go:55
        refine EC.region (fun i => [1, 1, 1].getD i 0) [0, 1, 2] rfl ?_
        refine ER.sil rfl rfl rfl rfl (Sil.move rfl) ?_  -- 5.0: t25 := move
        refine ER.sil rfl rfl rfl rfl (Sil.add rfl rfl) ?_  -- 5.1: t26 := binOp
        refine ER.sil rfl rfl rfl rfl (Sil.assign rfl) ?_  -- 5.2: t9 := assign
        refine ER.nil (fun w74 h74 => ?_)
        refine AQ.round ⟨q.k + 1, _⟩ [0, 2, 4, 7, 8, 9] (by rw [hk1]; rfl) ⟨((e72.trans h73).trans h74), by simp only; omega, by simp only [hst]; exact (Ext.own z72 (h73.trans h74))⟩ (by simp only; omega)
  ·
    refine EC.exit ?_
    refine AQ.thenExit ?_
    refine AQ.thenExit ?_
    refine AQ.blockHit ?_
    refine AQ.then ?_
    refine EC.seq ?_
    -- region 13  ref.go:68
    refine EC.region (fun i => [1, 1].getD i 0) [0, 1] rfl ?_
    refine ER.sil rfl rfl rfl rfl (Sil.move rfl) ?_  -- 13.0: t119 := move
    refine ER.sil rfl rfl rfl rfl (Sil.assign rfl) ?_  -- 13.1: t6 := assign
    refine ER.nil (fun w75 h75 => ?_)
    refine AQ.then ?_
    refine EC.ret ?_
    refine AQ.ret1 Try.results30 rfl ?_
    have hge : q.k = (endsL (l ++ [s])).length - 1 := by rw [hk1] at hb0; have := of_decide_eq_false hb0; omega
    refine ⟨_, rfl, hE0.trans ((hE.trans h56).trans h75), ?_⟩
    have hz := (Ext.own out (h56.trans h75))
    rw [hge] at hz
    exact own_base hz hE0.size

end Go.Proofs.Ytnnmeipmkfbpdaa
