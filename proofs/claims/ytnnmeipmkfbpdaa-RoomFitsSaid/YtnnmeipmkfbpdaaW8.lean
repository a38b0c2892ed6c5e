/- Room: the reference's ends. -/
import Derived.Test.YtnnmeipmkfbpdaaW7
namespace Go.Proofs.Ytnnmeipmkfbpdaa
open Go.RowKit Go.XK Go.RoomLaw

structure EndS where
  k : Nat
  v : Value
structure PosS where
  j : Nat

-- linchpin/linchpinref04.ends: parameters ['[]api.Span'] (free 0), results [('ResultVar.tmp', 2)], 70 slots
theorem refEnds_any (l : List Sp) (v : Value) (w : World) (hl : Spans w v l) (hn : l.length ≤ 1000) :
    Calls Try.prog 36 [v].toArray w fun e w' => ∃ v', e = .returned v' ∧ Ext w w' ∧ w'.ownsRow w.heap.size 3 1 v' (endsL l).length (inC (endsL l)) := by
  have hm := Reads.max hl
  have hmul : IntKind.i64.wrap (2 * (l.length : Int)) = ((2 * l.length : Nat) : Int) := by rw [IntWalk.i64_in _ (by omega)]; omega
  refine calls_of Try.func36 rfl Try.ntmps36 rfl ?_
  refine EC.seq ?_
  -- region 0  ref.go:33
  refine EC.region (fun i => [1].getD i 0) [0] rfl ?_
  refine ER.sil rfl rfl rfl rfl (Sil.assign rfl) ?_  -- 0.0: t2 := assign
  refine ER.nil (fun w1 h1 => ?_)
  refine AQ.then ?_
  refine EC.seq ?_
  -- region 1  ref.go:34
  refine EC.region (fun i => [1].getD i 0) [0] rfl ?_
  refine ER.sil rfl rfl rfl rfl (Sil.assign rfl) ?_  -- 1.0: t3 := assign
  refine ER.nil (fun w2 h2 => ?_)
  refine AQ.then ?_
  refine EC.seq ?_
  refine EC.seq ?_
  -- region 2  ref.go:35
  refine EC.region (fun i => [1].getD i 0) [0] rfl ?_
  refine ER.sil rfl rfl rfl rfl (Sil.assign rfl) ?_  -- 2.0: t4 := assign
  refine ER.nil (fun w3 h3 => ?_)
  refine AQ.then ?_
  refine EC.block ?_
  refine EC.loop (σ := EndS) (fun q => [(0, v), (3, q.v), (4, .int .i64 (q.k : Int))]) (fun q wr => Ext w wr ∧ q.k ≤ 2 * l.length ∧ wr.ownsRow w.heap.size 3 1 q.v (endsTo l q.k).length (inC (endsTo l q.k))) (fun q => 2 * l.length - q.k) ⟨0, .slice none 0 0⟩ [0, 3, 4] rfl ?_ (fun q wr hF => ?_)
  · exact ⟨((h1.trans h2).trans h3), Nat.zero_le _, World.ownsRow_nil _ _ _ _⟩
  obtain ⟨hE, hk, out⟩ := hF
  have hel := endsTo_length l q.k
  refine EC.seq ?_
  refine EC.seq ?_
  -- region 3  ref.go:35
  refine EC.region (fun i => [1, 1, 1, 1, 1].getD i 0) [0, 1, 2, 3, 4] rfl ?_
  refine ER.sil rfl rfl rfl rfl (Sil.move rfl) ?_  -- 3.0: t7 := move
  refine ER.sil rfl rfl rfl rfl (Sil.move rfl) ?_  -- 3.1: t8 := move
  refine ER.sil rfl rfl rfl rfl (Sil.lenR Try.underlying22 rfl (Reads.isS hl)) ?_  -- 3.2: t9 := call
  refine ER.sil rfl rfl rfl rfl (Sil.mul rfl rfl) ?_  -- 3.3: t10 := binOp
  refine ER.sil rfl rfl rfl rfl (Sil.lss rfl rfl) ?_  -- 3.4: t11 := binOp
  refine ER.nil (fun w4 h4 => ?_)
  refine AQ.then ?_
  refine EC.cond rfl (fun hb0 => ?_) (fun hb0 => ?_)  -- cond 0: t11
  ·
    have hlt : q.k < 2 * l.length := by rw [hmul] at hb0; have := of_decide_eq_true hb0; omega
    have hk2 : q.k ≤ 100000 := by omega
    have hh : q.k / 2 < l.length := by omega
    refine EC.skip ?_
    refine AQ.then ?_
    refine EC.join (σ := Value) (fun z => [(0, v), (3, z), (4, .int .i64 (q.k : Int))]) (fun z wr => Ext w wr ∧ wr.ownsRow w.heap.size 3 1 z (insE (endsTo l q.k) (nthE l q.k)).length (inC (insE (endsTo l q.k) (nthE l q.k)))) ?_ (fun z wr hF => ?_)
    ·
      refine EC.block ?_
      refine EC.seq ?_
      -- region 5  ref.go:36
      refine EC.region (fun i => [1, 1, 1, 1, 1, 0, 1].getD i 0) [0, 1, 2, 3, 4, 5, 6] rfl ?_
      refine ER.sil rfl rfl rfl rfl (Sil.move rfl) ?_  -- 5.0: t14 := move
      refine ER.sil rfl rfl rfl rfl (Sil.move rfl) ?_  -- 5.1: t15 := move
      refine ER.sil rfl rfl rfl rfl (Sil.quo rfl rfl (by decide)) ?_  -- 5.2: t16 := binOp
      refine ER.sil rfl rfl rfl rfl (Sil.indexR Try.underlying22 inf24 rfl rfl (Reads.isE hl (by omega)) (by rw [tdiv2 hk2]; omega) (by rw [tdiv2 hk2]; omega)) ?_  -- 5.3: t17 := indexAddr
      refine ER.sil rfl rfl rfl rfl (Sil.fieldAddr Try.underlying24 rfl inf3 rfl) ?_  -- 5.4: t18 := fieldAddr
      refine ER.ex rfl rfl rfl rfl (Exa.load flat3 rfl (by rw [tdiv2 hk2]; exact (Spans.elem (hl.ext (hE.trans h4)) hh) 0 _ rfl)) ?_  -- 5.5: t19 := load
      refine ER.sil rfl rfl rfl rfl (Sil.assign rfl) ?_  -- 5.6: t5 := assign
      refine ER.nil (fun w5 h5 => ?_)
      refine AQ.then ?_
      refine EC.join (σ := Unit) (fun _u => [(0, v), (3, q.v), (4, .int .i64 (q.k : Int)), (5, .int .i64 (nthE l q.k))]) (fun _u wr => Ext w wr ∧ wr.ownsRow w.heap.size 3 1 q.v (endsTo l q.k).length (inC (endsTo l q.k))) ?_ (fun _u wr hF => ?_)
      ·
        refine EC.seq ?_
        -- region 6  ref.go:37
        refine EC.region (fun i => [1, 1, 1].getD i 0) [0, 1, 2] rfl ?_
        refine ER.sil rfl rfl rfl rfl (Sil.move rfl) ?_  -- 6.0: t20 := move
        refine ER.sil rfl rfl rfl rfl (Sil.rem rfl rfl (by decide)) ?_  -- 6.1: t21 := binOp
        refine ER.sil rfl rfl rfl rfl (Sil.eql rfl rfl) ?_  -- 6.2: t22 := binOp
        refine ER.nil (fun w6 h6 => ?_)
        refine AQ.then ?_
        refine EC.cond rfl (fun hb1 => ?_) (fun hb1 => ?_)  -- cond 1: t22
        ·
          have hod : q.k % 2 = 1 := by rw [tmod2] at hb1; have := eq_of_beq hb1; omega
          -- region 7  ref.go:38
          refine EC.region (fun i => [1, 1, 1, 1, 1, 1, 0, 1, 1].getD i 0) [0, 1, 2, 3, 4, 5, 6, 7, 8] rfl ?_
          refine ER.sil rfl rfl rfl rfl (Sil.move rfl) ?_  -- 7.0: t23 := move
          refine ER.sil rfl rfl rfl rfl (Sil.move rfl) ?_  -- 7.1: t24 := move
          refine ER.sil rfl rfl rfl rfl (Sil.move rfl) ?_  -- 7.2: t25 := move
          refine ER.sil rfl rfl rfl rfl (Sil.quo rfl rfl (by decide)) ?_  -- 7.3: t26 := binOp
          refine ER.sil rfl rfl rfl rfl (Sil.indexR Try.underlying22 inf24 rfl rfl (Reads.isE hl (by omega)) (by rw [tdiv2 hk2]; omega) (by rw [tdiv2 hk2]; omega)) ?_  -- 7.4: t27 := indexAddr
          refine ER.sil rfl rfl rfl rfl (Sil.fieldAddr Try.underlying24 rfl inf3 rfl) ?_  -- 7.5: t28 := fieldAddr
          refine ER.ex rfl rfl rfl rfl (Exa.load flat3 rfl (by rw [tdiv2 hk2]; exact (Spans.elem (hl.ext (((hE.trans h4).trans h5).trans h6)) hh) 1 _ rfl)) ?_  -- 7.6: t29 := load
          refine ER.sil rfl rfl rfl rfl (Sil.add rfl rfl) ?_  -- 7.7: t30 := binOp
          refine ER.sil rfl rfl rfl rfl (Sil.assign rfl) ?_  -- 7.8: t5 := assign
          refine ER.nil (fun w7 h7 => ?_)
          refine AQ.join () [0, 3, 4, 5] (by rw [tdiv2 hk2, nthE, if_pos hod]; rfl) ⟨((((hE.trans h4).trans h5).trans h6).trans h7), (Ext.own out (((h4.trans h5).trans h6).trans h7))⟩
        ·
          have hod : ¬ q.k % 2 = 1 := by rw [tmod2] at hb1; have := ne_of_beq_false hb1; omega
          refine EC.skip ?_
          refine AQ.join () [0, 3, 4, 5] (by rw [tdiv2 hk2, nthE, if_neg hod]; rfl) ⟨(((hE.trans h4).trans h5).trans h6), (Ext.own out ((h4.trans h5).trans h6))⟩
      obtain ⟨hE, out⟩ := hF
      refine EC.seq ?_
      -- region 8  ref.go:40
      refine EC.region (fun i => [1].getD i 0) [0] rfl ?_
      refine ER.sil rfl rfl rfl rfl (Sil.assign rfl) ?_  -- 8.0: t6 := assign
      refine ER.nil (fun w8 h8 => ?_)
      refine AQ.then ?_
      refine EC.seq ?_
      refine EC.block ?_
      refine EC.loop (σ := PosS) (fun u => [(0, v), (3, q.v), (4, .int .i64 (q.k : Int)), (5, .int .i64 (nthE l q.k)), (6, .int .i64 (u.j : Int))]) (fun u wr => Ext w wr ∧ u.j ≤ (endsTo l q.k).length ∧ (∀ i, i < u.j → gi (endsTo l q.k) i < nthE l q.k) ∧ wr.ownsRow w.heap.size 3 1 q.v (endsTo l q.k).length (inC (endsTo l q.k))) (fun u => (endsTo l q.k).length - u.j) ⟨0⟩ [0, 3, 4, 5, 6] rfl ?_ (fun u wr hF => ?_)
      · exact ⟨(hE.trans h8), Nat.zero_le _, fun i hi => absurd hi (Nat.not_lt_zero _), (Ext.own out h8)⟩
      obtain ⟨hE, hj, hjb, out⟩ := hF
      refine EC.seq ?_
      refine EC.seq ?_
      -- region 9  ref.go:41
      refine EC.region (fun i => [1, 1, 1, 1, 1, 1, 1, 1, 0, 1, 1, 1].getD i 0) [0, 1, 2, 3, 4, 5, 6, 7, 8, 9, 10, 11] rfl ?_
      refine ER.sil rfl rfl rfl rfl (Sil.move rfl) ?_  -- 9.0: t31 := move
      refine ER.sil rfl rfl rfl rfl (Sil.move rfl) ?_  -- 9.1: t32 := move
      refine ER.sil rfl rfl rfl rfl (Sil.lenR Try.underlying44 rfl (Reads.isS (Ints.of_own out))) ?_  -- 9.2: t33 := call
      refine ER.sil rfl rfl rfl rfl (Sil.lss rfl rfl) ?_  -- 9.3: t34 := binOp
      refine ER.sil rfl rfl rfl rfl (Sil.move rfl) ?_  -- 9.4: t35 := move
      refine ER.silG rfl rfl rfl rfl rfl rfl (fun hc => Sil.move rfl) ?_  -- 9.5: t36 := move
      refine ER.silG rfl rfl rfl rfl rfl rfl (fun hc => Sil.move rfl) ?_  -- 9.6: t37 := move
      refine ER.silG rfl rfl rfl rfl rfl rfl (fun hc => Sil.indexR Try.underlying44 inf3 (congrArg some (sel_eq hc _)) (congrArg some (sel_eq hc _)) (Reads.isE (Ints.of_own out) (by have := of_decide_eq_true hc; omega)) (by omega) (by have := of_decide_eq_true hc; omega)) ?_  -- 9.7: t38 := indexAddr
      refine ER.exG rfl rfl rfl rfl rfl rfl (fun hc => Exa.load flat3 (congrArg some (sel_eq hc _)) (Ints.cell (Ints.of_own out) (by have := of_decide_eq_true hc; omega))) ?_  -- 9.8: t39 := load
      refine ER.silG rfl rfl rfl rfl rfl rfl (fun hc => Sil.move rfl) ?_  -- 9.9: t40 := move
      refine ER.silG rfl rfl rfl rfl rfl rfl (fun hc => Sil.lss (congrArg some (sel_eq hc _)) (congrArg some (sel_eq hc _))) ?_  -- 9.10: t41 := binOp
      refine ER.sil rfl rfl rfl rfl (Sil.pickAnd rfl rfl rfl) ?_  -- 9.11: t42 := pick
      refine ER.nil (fun w9 h9 => ?_)
      refine AQ.then ?_
      refine EC.cond rfl (fun hb2 => ?_) (fun hb2 => ?_)  -- cond 2: t42
      ·
        have hjl : u.j < (endsTo l q.k).length := by have := of_decide_eq_true (Bool.and_eq_true _ _ ▸ hb2 : _ ∧ _).1; omega
        have hjn := of_decide_eq_true (Bool.and_eq_true _ _ ▸ hb2 : _ ∧ _).2
        refine EC.skip ?_
        refine AQ.then ?_
        refine EC.block ?_
        -- region 10  ref.go:42
        refine EC.region (fun i => [1, 1, 1].getD i 0) [0, 1, 2] rfl ?_
        refine ER.sil rfl rfl rfl rfl (Sil.move rfl) ?_  -- 10.0: t43 := move
        refine ER.sil rfl rfl rfl rfl (Sil.add rfl rfl) ?_  -- 10.1: t44 := binOp
        refine ER.sil rfl rfl rfl rfl (Sil.assign rfl) ?_  -- 10.2: t6 := assign
        refine ER.nil (fun w10 h10 => ?_)
        refine AQ.blockNormal ?_
        refine AQ.round ⟨u.j + 1⟩ [0, 3, 4, 5, 6] (by rw [wrap_succ hjl (Reads.max (Ints.of_own (Ext.own out (h9.trans h10))))]; rfl) ⟨((hE.trans h9).trans h10), hjl, fun i hi => ?_, (Ext.own out (h9.trans h10))⟩ (by simp only; omega)
        rcases Nat.lt_or_eq_of_le (Nat.le_of_lt_succ hi) with hi | rfl
        · exact hjb i hi
        · exact hjn
      ·
        have hpos : posE (endsTo l q.k) (nthE l q.k) = u.j := posE_of hj hjb (by
          rcases Bool.and_eq_false_iff.1 hb2 with h | h
          · left; have := of_decide_eq_false h; omega
          · right; exact of_decide_eq_false h)
        refine EC.exit ?_
        refine AQ.thenExit ?_
        refine AQ.thenExit ?_
        refine AQ.blockHit ?_
        refine AQ.then ?_
        refine EC.seq ?_
        -- region 11  ref.go:44
        refine EC.region (fun i => [1, 1, 1, 1, 1, 1, 1, 1, 0, 1, 1, 1].getD i 0) [0, 1, 2, 3, 4, 5, 6, 7, 8, 9, 10, 11] rfl ?_
        refine ER.sil rfl rfl rfl rfl (Sil.move rfl) ?_  -- 11.0: t45 := move
        refine ER.sil rfl rfl rfl rfl (Sil.move rfl) ?_  -- 11.1: t46 := move
        refine ER.sil rfl rfl rfl rfl (Sil.lenR Try.underlying44 rfl (Reads.isS (Ints.of_own (Ext.own out h9)))) ?_  -- 11.2: t47 := call
        refine ER.sil rfl rfl rfl rfl (Sil.eql rfl rfl) ?_  -- 11.3: t48 := binOp
        refine ER.sil rfl rfl rfl rfl (Sil.move rfl) ?_  -- 11.4: t49 := move
        refine ER.silG rfl rfl rfl rfl rfl rfl (fun hc => Sil.move rfl) ?_  -- 11.5: t50 := move
        refine ER.silG rfl rfl rfl rfl rfl rfl (fun hc => Sil.move rfl) ?_  -- 11.6: t51 := move
        refine ER.silG rfl rfl rfl rfl rfl rfl (fun hc => Sil.indexR Try.underlying44 inf3 (congrArg some (sel_eq hc _)) (congrArg some (sel_eq hc _)) (Reads.isE (Ints.of_own (Ext.own out h9)) (by have := ne_of_beq_false hc; omega)) (by omega) (by have := ne_of_beq_false hc; omega)) ?_  -- 11.7: t52 := indexAddr
        refine ER.exG rfl rfl rfl rfl rfl rfl (fun hc => Exa.load flat3 (congrArg some (sel_eq hc _)) (Ints.cell (Ints.of_own (Ext.own out h9)) (by have := ne_of_beq_false hc; omega))) ?_  -- 11.8: t53 := load
        refine ER.silG rfl rfl rfl rfl rfl rfl (fun hc => Sil.move rfl) ?_  -- 11.9: t54 := move
        refine ER.silG rfl rfl rfl rfl rfl rfl (fun hc => Sil.neq (congrArg some (sel_eq hc _)) (congrArg some (sel_eq hc _))) ?_  -- 11.10: t55 := binOp
        refine ER.sil rfl rfl rfl rfl (Sil.pickOr rfl rfl rfl) ?_  -- 11.11: t56 := pick
        refine ER.nil (fun w11 h11 => ?_)
        refine AQ.then ?_
        refine EC.cond rfl (fun hb3 => ?_) (fun hb3 => ?_)  -- cond 3: t56
        ·
          have hins : insB (endsTo l q.k) (nthE l q.k) = true := by rw [insB, hpos]; exact hb3
          have hnx : insE (endsTo l q.k) (nthE l q.k) = (endsTo l q.k).take u.j ++ [nthE l q.k] ++ (endsTo l q.k).drop u.j := by rw [insE, if_pos hins, hpos]
          -- region 12  ref.go:45
          have oS := (Ext.own out (h9.trans h11))
          have hS := ((hE.trans h9).trans h11).size
          refine EC.drawA (fun i => [2, 1, 1, 1, 3, 1, 2, 3, 1, 1, 1, 3, 1].getD i 0) (by kernel_rfl) 13 rfl ?_
          refine EA.take 1 (by kernel_rfl) ?_
          intro c12
          refine EX.sil rfl rfl rfl rfl (Sil.move rfl) ?_  -- 12.1: t58 := move
          refine EA.back c12 ?_
          refine EA.take 2 (by kernel_rfl) ?_
          intro c13
          refine EX.sil rfl rfl rfl rfl (Sil.move rfl) ?_  -- 12.2: t59 := move
          refine EA.back c13 ?_
          refine EA.take 3 (by kernel_rfl) ?_
          intro c14
          refine EX.sil rfl rfl rfl rfl (Sil.sliceHR Try.underlying44 inf3 rfl rfl (Reads.isS (Ints.of_own oS)) (by omega) (by omega)) ?_  -- 12.3: t60 := slice
          refine EA.back c14 ?_
          refine EA.take 5 (by kernel_rfl) ?_
          intro c15
          refine EX.sil rfl rfl rfl rfl (Sil.move rfl) ?_  -- 12.5: t62 := move
          refine EA.back c15 ?_
          refine EA.take 8 (by kernel_rfl) ?_
          intro c16
          refine EX.sil rfl rfl rfl rfl (Sil.move rfl) ?_  -- 12.8: t65 := move
          refine EA.back c16 ?_
          refine EA.take 9 (by kernel_rfl) ?_
          intro c17
          refine EX.sil rfl rfl rfl rfl (Sil.move rfl) ?_  -- 12.9: t66 := move
          refine EA.back c17 ?_
          refine EA.take 10 (by kernel_rfl) ?_
          intro c18
          refine EX.sil rfl rfl rfl rfl (Sil.sliceLR Try.underlying44 inf3 rfl rfl (Reads.isS (Ints.of_own oS)) (by omega) (by omega)) ?_  -- 12.10: t67 := slice
          refine EA.back c18 ?_
          refine EA.two 0 6 (by kernel_rfl) ?_ ?_
          ·
            intro c19
            refine EX.st rfl rfl rfl rfl (fun w20 h20 => Stp.buildNil Try.underlying44 inf3 (fun w21 h21 s21 r21 => ⟨h21, ?_⟩))  -- 12.0: t57 := buildSlice
            have z21 := h20.size
            have hq57 := h20.size
            refine EA.back c19 ?_
            refine EA.two 4 6 (by kernel_rfl) ?_ ?_
            ·
              intro c22
              have hq4 := Nat.le_trans hq57 (Nat.le_of_lt r21.lt)
              refine EX.bar rfl rfl rfl rfl (fun w23 h23 => ?_)  -- 12.4: t61 := call
              have o23 := own_row (size := 1) (r21.ext h23) hq57
              refine Stp.append Try.underlying44 inf3 rfl (by decide) rfl rfl o23 (Nat.le_trans hq57 (Nat.le_of_lt (r21.ext h23).lt)) (Reads.takeV (Ints.of_own (Ext.own oS ((h20.trans h21).trans h23))) hj) (by rw [← inC_take]; exact inC_one _) (by first | omega | (simp only [List.length_append, List.length_cons, List.length_nil]; omega)) (by unfold maxLen; first | omega | (simp only [List.length_append, List.length_cons, List.length_nil]; omega)) (fun v24 w24 o24 g24 n24 => ?_)
              have e24 := (((((hE.trans h9).trans h11).trans h20).trans h21).trans h23).grown g24 (fun k hk => Nat.le_trans (hS) (o23.lt k hk).1)
              simp only [Nat.zero_add, List.nil_append] at o24
              have y24_out := own_keep oS (Ext.own oS ((h20.trans h21).trans h23)) o23 g24
              have hb2 := Nat.le_trans (Nat.le_trans hq4 h23.size) g24.size
              refine EA.back c22 ?_
              refine EA.only 6 (by kernel_rfl) ?_
              intro c25
              refine EX.st rfl rfl rfl rfl (fun w26 h26 => Stp.buildAll [_] Try.underlying44 inf3 rfl rfl rfl rfl rfl rfl (fun w27 h27 s27 r27 => ⟨h27, ?_⟩))  -- 12.6: t63 := buildSlice
              have z27 := h26.size
              refine EA.back c25 ?_
              refine EA.only 7 (by kernel_rfl) ?_
              intro c28
              have hb3 := Nat.le_trans hb2 (h26.trans h27).size
              refine EX.bar rfl rfl rfl rfl (fun w29 h29 => ?_)  -- 12.7: t64 := call
              have o29 := (Ext.own o24 ((h26.trans h27).trans h29))
              refine Stp.append Try.underlying44 inf3 rfl (by decide) rfl rfl o29 (Nat.le_trans hb2 ((h26.trans h27).trans h29).size) (Reads.of_row (r27.ext h29) rfl (by decide)) (inC_one [_]) (by first | omega | (simp only [List.length_append, List.length_cons, List.length_nil]; omega)) (by unfold maxLen; first | omega | (simp only [List.length_append, List.length_cons, List.length_nil]; omega)) (fun v30 w30 o30 g30 n30 => ?_)
              have e30 := (((e24.trans h26).trans h27).trans h29).grown g30 (fun k hk => Nat.le_trans (hS) (o29.lt k hk).1)
              have y30_out := own_keep oS (Ext.own y24_out ((h26.trans h27).trans h29)) o29 g30
              have hb3 := Nat.le_trans (Nat.le_trans hb3 h29.size) g30.size
              refine EA.back c28 ?_
              refine EA.only 11 (by kernel_rfl) ?_
              intro c31
              refine EX.bar rfl rfl rfl rfl (fun w32 h32 => ?_)  -- 12.11: t68 := call
              have o32 := (Ext.own o30 h32)
              refine Stp.append Try.underlying44 inf3 rfl (by decide) rfl rfl o32 (Nat.le_trans hb3 h32.size) (Reads.dropV (Ints.of_own (Ext.own y30_out h32)) hj) (by rw [← inC_drop]; exact inC_one _) (by first | omega | (simp only [List.length_append, List.length_cons, List.length_nil]; omega)) (by unfold maxLen; first | omega | (simp only [List.length_append, List.length_cons, List.length_nil]; omega)) (fun v33 w33 o33 g33 n33 => ?_)
              have e33 := (e30.trans h32).grown g33 (fun k hk => Nat.le_trans (hS) (o32.lt k hk).1)
              refine EA.back c31 ?_
              refine EA.take 12 (by kernel_rfl) ?_
              intro c34
              refine EX.sil rfl rfl rfl rfl (Sil.assign rfl) ?_  -- 12.12: t3 := assign
              refine EA.back c34 ?_
              refine EA.nil (by kernel_rfl) (fun w35 h35 => ?_)
              refine AQ.blockNormal ?_
              refine AQ.join _ [0, 3, 4] rfl ⟨(e33.trans h35), ?_⟩
              rw [hnx, ins_cells, ins_length _ _ hj]
              exact own_base (Ext.own o33 h35) hS
            ·
              intro c36
              refine EX.st rfl rfl rfl rfl (fun w37 h37 => Stp.buildAll [_] Try.underlying44 inf3 rfl rfl rfl rfl rfl rfl (fun w38 h38 s38 r38 => ⟨h38, ?_⟩))  -- 12.6: t63 := buildSlice
              have z38 := h37.size
              refine EA.back c36 ?_
              refine EA.only 4 (by kernel_rfl) ?_
              intro c39
              have hq4 := Nat.le_trans hq57 (Nat.le_of_lt (r21.ext (h37.trans h38)).lt)
              refine EX.bar rfl rfl rfl rfl (fun w40 h40 => ?_)  -- 12.4: t61 := call
              have o40 := own_row (size := 1) (r21.ext ((h37.trans h38).trans h40)) hq57
              refine Stp.append Try.underlying44 inf3 rfl (by decide) rfl rfl o40 (Nat.le_trans hq57 (Nat.le_of_lt (r21.ext ((h37.trans h38).trans h40)).lt)) (Reads.takeV (Ints.of_own (Ext.own oS ((((h20.trans h21).trans h37).trans h38).trans h40))) hj) (by rw [← inC_take]; exact inC_one _) (by first | omega | (simp only [List.length_append, List.length_cons, List.length_nil]; omega)) (by unfold maxLen; first | omega | (simp only [List.length_append, List.length_cons, List.length_nil]; omega)) (fun v41 w41 o41 g41 n41 => ?_)
              have e41 := (((((((hE.trans h9).trans h11).trans h20).trans h21).trans h37).trans h38).trans h40).grown g41 (fun k hk => Nat.le_trans (hS) (o40.lt k hk).1)
              simp only [Nat.zero_add, List.nil_append] at o41
              have x41_63 := (r38.ext h40).grown g41 (by intro e1; injection e1 with e1; simp only at e1; omega)
              have y41_out := own_keep oS (Ext.own oS ((((h20.trans h21).trans h37).trans h38).trans h40)) o40 g41
              have hb2 := Nat.le_trans (Nat.le_trans hq4 h40.size) g41.size
              refine EA.back c39 ?_
              refine EA.only 7 (by kernel_rfl) ?_
              intro c42
              have hb3 := Nat.le_trans hb2 (Ext.refl _).size
              refine EX.bar rfl rfl rfl rfl (fun w43 h43 => ?_)  -- 12.7: t64 := call
              have o43 := (Ext.own o41 h43)
              refine Stp.append Try.underlying44 inf3 rfl (by decide) rfl rfl o43 (Nat.le_trans hb2 h43.size) (Reads.of_row (x41_63.ext h43) rfl (by decide)) (inC_one [_]) (by first | omega | (simp only [List.length_append, List.length_cons, List.length_nil]; omega)) (by unfold maxLen; first | omega | (simp only [List.length_append, List.length_cons, List.length_nil]; omega)) (fun v44 w44 o44 g44 n44 => ?_)
              have e44 := (e41.trans h43).grown g44 (fun k hk => Nat.le_trans (hS) (o43.lt k hk).1)
              have y44_out := own_keep oS (Ext.own y41_out h43) o43 g44
              have hb3 := Nat.le_trans (Nat.le_trans hb3 h43.size) g44.size
              refine EA.back c42 ?_
              refine EA.only 11 (by kernel_rfl) ?_
              intro c45
              refine EX.bar rfl rfl rfl rfl (fun w46 h46 => ?_)  -- 12.11: t68 := call
              have o46 := (Ext.own o44 h46)
              refine Stp.append Try.underlying44 inf3 rfl (by decide) rfl rfl o46 (Nat.le_trans hb3 h46.size) (Reads.dropV (Ints.of_own (Ext.own y44_out h46)) hj) (by rw [← inC_drop]; exact inC_one _) (by first | omega | (simp only [List.length_append, List.length_cons, List.length_nil]; omega)) (by unfold maxLen; first | omega | (simp only [List.length_append, List.length_cons, List.length_nil]; omega)) (fun v47 w47 o47 g47 n47 => ?_)
              have e47 := (e44.trans h46).grown g47 (fun k hk => Nat.le_trans (hS) (o46.lt k hk).1)
              refine EA.back c45 ?_
              refine EA.take 12 (by kernel_rfl) ?_
              intro c48
              refine EX.sil rfl rfl rfl rfl (Sil.assign rfl) ?_  -- 12.12: t3 := assign
              refine EA.back c48 ?_
              refine EA.nil (by kernel_rfl) (fun w49 h49 => ?_)
              refine AQ.blockNormal ?_
              refine AQ.join _ [0, 3, 4] rfl ⟨(e47.trans h49), ?_⟩
              rw [hnx, ins_cells, ins_length _ _ hj]
              exact own_base (Ext.own o47 h49) hS
          ·
            intro c50
            refine EX.st rfl rfl rfl rfl (fun w51 h51 => Stp.buildAll [_] Try.underlying44 inf3 rfl rfl rfl rfl rfl rfl (fun w52 h52 s52 r52 => ⟨h52, ?_⟩))  -- 12.6: t63 := buildSlice
            have z52 := h51.size
            refine EA.back c50 ?_
            refine EA.only 0 (by kernel_rfl) ?_
            intro c53
            refine EX.st rfl rfl rfl rfl (fun w54 h54 => Stp.buildNil Try.underlying44 inf3 (fun w55 h55 s55 r55 => ⟨h55, ?_⟩))  -- 12.0: t57 := buildSlice
            have z55 := h54.size
            have hq57 := ((h51.trans h52).trans h54).size
            refine EA.back c53 ?_
            refine EA.only 4 (by kernel_rfl) ?_
            intro c56
            have hq4 := Nat.le_trans hq57 (Nat.le_of_lt r55.lt)
            refine EX.bar rfl rfl rfl rfl (fun w57 h57 => ?_)  -- 12.4: t61 := call
            have o57 := own_row (size := 1) (r55.ext h57) hq57
            refine Stp.append Try.underlying44 inf3 rfl (by decide) rfl rfl o57 (Nat.le_trans hq57 (Nat.le_of_lt (r55.ext h57).lt)) (Reads.takeV (Ints.of_own (Ext.own oS ((((h51.trans h52).trans h54).trans h55).trans h57))) hj) (by rw [← inC_take]; exact inC_one _) (by first | omega | (simp only [List.length_append, List.length_cons, List.length_nil]; omega)) (by unfold maxLen; first | omega | (simp only [List.length_append, List.length_cons, List.length_nil]; omega)) (fun v58 w58 o58 g58 n58 => ?_)
            have e58 := (((((((hE.trans h9).trans h11).trans h51).trans h52).trans h54).trans h55).trans h57).grown g58 (fun k hk => Nat.le_trans (hS) (o57.lt k hk).1)
            simp only [Nat.zero_add, List.nil_append] at o58
            have x58_63 := (r52.ext ((h54.trans h55).trans h57)).grown g58 (by intro e1; injection e1 with e1; simp only at e1; omega)
            have y58_out := own_keep oS (Ext.own oS ((((h51.trans h52).trans h54).trans h55).trans h57)) o57 g58
            have hb2 := Nat.le_trans (Nat.le_trans hq4 h57.size) g58.size
            refine EA.back c56 ?_
            refine EA.only 7 (by kernel_rfl) ?_
            intro c59
            have hb3 := Nat.le_trans hb2 (Ext.refl _).size
            refine EX.bar rfl rfl rfl rfl (fun w60 h60 => ?_)  -- 12.7: t64 := call
            have o60 := (Ext.own o58 h60)
            refine Stp.append Try.underlying44 inf3 rfl (by decide) rfl rfl o60 (Nat.le_trans hb2 h60.size) (Reads.of_row (x58_63.ext h60) rfl (by decide)) (inC_one [_]) (by first | omega | (simp only [List.length_append, List.length_cons, List.length_nil]; omega)) (by unfold maxLen; first | omega | (simp only [List.length_append, List.length_cons, List.length_nil]; omega)) (fun v61 w61 o61 g61 n61 => ?_)
            have e61 := (e58.trans h60).grown g61 (fun k hk => Nat.le_trans (hS) (o60.lt k hk).1)
            have y61_out := own_keep oS (Ext.own y58_out h60) o60 g61
            have hb3 := Nat.le_trans (Nat.le_trans hb3 h60.size) g61.size
            refine EA.back c59 ?_
            refine EA.only 11 (by kernel_rfl) ?_
            intro c62
            refine EX.bar rfl rfl rfl rfl (fun w63 h63 => ?_)  -- 12.11: t68 := call
            have o63 := (Ext.own o61 h63)
            refine Stp.append Try.underlying44 inf3 rfl (by decide) rfl rfl o63 (Nat.le_trans hb3 h63.size) (Reads.dropV (Ints.of_own (Ext.own y61_out h63)) hj) (by rw [← inC_drop]; exact inC_one _) (by first | omega | (simp only [List.length_append, List.length_cons, List.length_nil]; omega)) (by unfold maxLen; first | omega | (simp only [List.length_append, List.length_cons, List.length_nil]; omega)) (fun v64 w64 o64 g64 n64 => ?_)
            have e64 := (e61.trans h63).grown g64 (fun k hk => Nat.le_trans (hS) (o63.lt k hk).1)
            refine EA.back c62 ?_
            refine EA.take 12 (by kernel_rfl) ?_
            intro c65
            refine EX.sil rfl rfl rfl rfl (Sil.assign rfl) ?_  -- 12.12: t3 := assign
            refine EA.back c65 ?_
            refine EA.nil (by kernel_rfl) (fun w66 h66 => ?_)
            refine AQ.blockNormal ?_
            refine AQ.join _ [0, 3, 4] rfl ⟨(e64.trans h66), ?_⟩
            rw [hnx, ins_cells, ins_length _ _ hj]
            exact own_base (Ext.own o64 h66) hS
        ·
          have hins : insB (endsTo l q.k) (nthE l q.k) = false := by rw [insB, hpos]; exact hb3
          have hnx : insE (endsTo l q.k) (nthE l q.k) = (endsTo l q.k) := by rw [insE, if_neg (by rw [hins]; exact Bool.false_ne_true)]
          refine EC.skip ?_
          refine AQ.blockNormal ?_
          refine AQ.join _ [0, 3, 4] rfl ⟨((hE.trans h9).trans h11), by rw [hnx]; exact (Ext.own out (h9.trans h11))⟩
    obtain ⟨hE, out⟩ := hF
    -- region 4  ref.go:35
    refine EC.region (fun i => [1, 1, 1].getD i 0) [0, 1, 2] rfl ?_
    refine ER.sil rfl rfl rfl rfl (Sil.move rfl) ?_  -- 4.0: t12 := move
    refine ER.sil rfl rfl rfl rfl (Sil.add rfl rfl) ?_  -- 4.1: t13 := binOp
    refine ER.sil rfl rfl rfl rfl (Sil.assign rfl) ?_  -- 4.2: t4 := assign
    refine ER.nil (fun w67 h67 => ?_)
    refine AQ.round ⟨q.k + 1, z⟩ [0, 3, 4] (by rw [wrap_succ hlt (by unfold maxLen; omega)]; rfl) ⟨(hE.trans h67), hlt, (Ext.own out h67)⟩ (by simp only; omega)
  ·
    refine EC.exit ?_
    refine AQ.thenExit ?_
    refine AQ.thenExit ?_
    refine AQ.blockHit ?_
    refine AQ.then ?_
    refine EC.seq ?_
    -- region 13  ref.go:48
    refine EC.region (fun i => [1, 1].getD i 0) [0, 1] rfl ?_
    refine ER.sil rfl rfl rfl rfl (Sil.move rfl) ?_  -- 13.0: t69 := move
    refine ER.sil rfl rfl rfl rfl (Sil.assign rfl) ?_  -- 13.1: t2 := assign
    refine ER.nil (fun w68 h68 => ?_)
    refine AQ.then ?_
    refine EC.ret ?_
    refine AQ.ret1 Try.results36 rfl ?_
    have hge : q.k = 2 * l.length := by rw [hmul] at hb0; have := of_decide_eq_false hb0; omega
    exact ⟨_, rfl, ((hE.trans h4).trans h68), by rw [endsL, ← hge]; exact (Ext.own out (h4.trans h68))⟩

end Go.Proofs.Ytnnmeipmkfbpdaa
