/- Room: Clone, Down, Up, Fit. -/
import Derived.Test.YtnnmeipmkfbpdaaW4
namespace Go.Proofs.Ytnnmeipmkfbpdaa
open Go.RowKit Go.XK Go.RoomLaw

-- slices.Clone[[]linchpin/api.Span,linchpin/api.Span]: parameters ['[]api.Span'] (free 0), results [('ResultVar.tmp', 2)], 8 slots
theorem clone_any (l : List Sp) (v : Value) (w : World) (hl : Spans w v l) (hn : l.length ≤ 1000) :
    Calls Try.prog 28 [v].toArray w fun e w' => ∃ v', e = .returned v' ∧ Ext w w' ∧ w'.ownsRow w.heap.size 24 2 v' (l).length (spCs (l)) := by
  obtain ⟨b0, c0, rfl, hm⟩ := Spans.len hl
  refine calls_of Try.func28 rfl Try.ntmps28 rfl ?_
  refine EC.seq ?_
  -- region 0  slices.go:355
  refine EC.region (fun i => [1].getD i 0) [0] rfl ?_
  refine ER.sil rfl rfl rfl rfl (Sil.assign rfl) ?_  -- 0.0: t2 := assign
  refine ER.nil (fun w1 h1 => ?_)
  refine AQ.then ?_
  refine EC.seq ?_
  refine EC.seq ?_
  -- region 1  slices.go:357
  refine EC.region (fun i => [1, 1].getD i 0) [0, 1] rfl ?_
  refine ER.sil rfl rfl rfl rfl (Sil.move rfl) ?_  -- 1.0: t3 := move
  refine ER.sil rfl rfl rfl rfl (Sil.eqlNil Try.underlying22 rfl rfl) ?_  -- 1.1: t4 := binOp
  refine ER.nil (fun w2 h2 => ?_)
  refine AQ.then ?_
  refine EC.cond rfl (fun hb0 => ?_) (fun hb0 => ?_)  -- cond 0: t4
  ·
    have h0 : l = [] := by
      rcases hl.2 with ⟨_, hz⟩ | ⟨b, o, c, hv, _⟩
      · exact List.eq_nil_of_length_eq_zero hz
      · injection hv with e1; rw [e1] at hb0; cases hb0
    subst h0
    refine EC.seq ?_
    -- region 2  slices.go:358
    refine EC.region (fun i => [1].getD i 0) [0] rfl ?_
    refine ER.sil rfl rfl rfl rfl (Sil.assign rfl) ?_  -- 2.0: t2 := assign
    refine ER.nil (fun w3 h3 => ?_)
    refine AQ.then ?_
    refine EC.ret ?_
    refine AQ.thenRet ?_
    refine AQ.ret1 Try.results28 rfl ?_
    exact ⟨_, rfl, ((h1.trans h2).trans h3), World.ownsRow_nil _ _ _ _⟩
  ·
    refine EC.skip ?_
    refine AQ.then ?_
    refine EC.seq ?_
    -- region 3  slices.go:362
    refine EC.region (fun i => [2, 1, 3, 1].getD i 0) [0, 1, 2, 3] rfl ?_
    refine ER.st rfl rfl rfl rfl (fun w4 h4 => Stp.buildNil Try.underlying22 inf24 (fun w5 h5 s5 r5 => ⟨h5, ?_⟩))  -- 3.0: t5 := buildSlice
    refine ER.sil rfl rfl rfl rfl (Sil.move rfl) ?_  -- 3.1: t6 := move
    refine ER.bar rfl rfl rfl rfl (fun w6 h6 => ?_)  -- 3.2: t7 := call
    have o6 := Ext.own (own_row (size := 2) r5 ((h1.trans h2).trans h4).size) h6
    refine Stp.append Try.underlying22 inf24 rfl (by decide) rfl rfl o6 (((((h1.trans h2).trans h4).trans h5).trans h6).size) (hl.ext ((((h1.trans h2).trans h4).trans h5).trans h6)) (spCs_one l) (by first | omega | (simp only [List.length_append, List.length_cons, List.length_nil]; omega)) (by unfold maxLen; first | omega | (simp only [List.length_append, List.length_cons, List.length_nil]; omega)) (fun v7 w7 o7 g7 n7 => ?_)
    have e7 := ((((h1.trans h2).trans h4).trans h5).trans h6).grown g7 (fun k hk => Nat.le_trans (Nat.le_refl _) (o6.lt k hk).1)
    simp only [Nat.zero_add, List.nil_append] at o7
    refine ER.sil rfl rfl rfl rfl (Sil.assign rfl) ?_  -- 3.3: t2 := assign
    refine ER.nil (fun w8 h8 => ?_)
    refine AQ.then ?_
    refine EC.ret ?_
    refine AQ.ret1 Try.results28 rfl ?_
    exact ⟨_, rfl, (e7.trans h8), Ext.own o7 h8⟩

-- linchpin/word.Down: parameters ['int', 'int'] (free 0), results [('ResultVar.tmp', 4)], 32 slots
theorem down_any (x n : Int) (w : World) :
    Calls Try.prog 35 [.int .i64 x, .int .i64 n].toArray w fun e w' => e = .returned (.int .i64 (downW x n)) ∧ Ext w w' := by
  refine calls_of Try.func35 rfl Try.ntmps35 rfl ?_
  refine EC.seq ?_
  -- region 0  word.go:70
  refine EC.region (fun i => [1].getD i 0) [0] rfl ?_
  refine ER.sil rfl rfl rfl rfl (Sil.assign rfl) ?_  -- 0.0: t4 := assign
  refine ER.nil (fun w1 h1 => ?_)
  refine AQ.then ?_
  refine EC.seq ?_
  refine EC.seq ?_
  -- region 1  word.go:71
  refine EC.region (fun i => [1, 1, 1, 1, 1, 1, 1, 1, 1, 1, 1, 1, 1, 1].getD i 0) [0, 1, 2, 3, 4, 5, 6, 7, 8, 9, 10, 11, 12, 13] rfl ?_
  refine ER.sil rfl rfl rfl rfl (Sil.move rfl) ?_  -- 1.0: t6 := move
  refine ER.sil rfl rfl rfl rfl (Sil.lss rfl rfl) ?_  -- 1.1: t7 := binOp
  refine ER.sil rfl rfl rfl rfl (Sil.move rfl) ?_  -- 1.2: t8 := move
  refine ER.silG rfl rfl rfl rfl rfl rfl (fun hc => Sil.move rfl) ?_  -- 1.3: t9 := move
  refine ER.silG rfl rfl rfl rfl rfl rfl (fun hc => Sil.gtr (congrArg some (sel_eq hc _)) rfl) ?_  -- 1.4: t10 := binOp
  refine ER.sil rfl rfl rfl rfl (Sil.pickOr rfl rfl rfl) ?_  -- 1.5: t11 := pick
  refine ER.sil rfl rfl rfl rfl (Sil.move rfl) ?_  -- 1.6: t12 := move
  refine ER.silG rfl rfl rfl rfl rfl rfl (fun hc => Sil.move rfl) ?_  -- 1.7: t13 := move
  refine ER.silG rfl rfl rfl rfl rfl rfl (fun hc => Sil.lss (congrArg some (sel_eq hc _)) rfl) ?_  -- 1.8: t14 := binOp
  refine ER.sil rfl rfl rfl rfl (Sil.pickOr rfl rfl rfl) ?_  -- 1.9: t15 := pick
  refine ER.sil rfl rfl rfl rfl (Sil.move rfl) ?_  -- 1.10: t16 := move
  refine ER.silG rfl rfl rfl rfl rfl rfl (fun hc => Sil.move rfl) ?_  -- 1.11: t17 := move
  refine ER.silG rfl rfl rfl rfl rfl rfl (fun hc => Sil.gtr (congrArg some (sel_eq hc _)) rfl) ?_  -- 1.12: t18 := binOp
  refine ER.sil rfl rfl rfl rfl (Sil.pickOr rfl rfl rfl) ?_  -- 1.13: t19 := pick
  refine ER.nil (fun w2 h2 => ?_)
  refine AQ.then ?_
  refine EC.cond rfl (fun hb0 => ?_) (fun hb0 => ?_)  -- cond 0: t19
  ·
    have hb0 : bad4 x n = true := hb0
    refine EC.seq ?_
    -- region 2  word.go:72
    refine EC.region (fun i => [1, 1].getD i 0) [0, 1] rfl ?_
    refine ER.sil rfl rfl rfl rfl (Sil.move rfl) ?_  -- 2.0: t20 := move
    refine ER.sil rfl rfl rfl rfl (Sil.assign rfl) ?_  -- 2.1: t4 := assign
    refine ER.nil (fun w3 h3 => ?_)
    refine AQ.then ?_
    refine EC.ret ?_
    refine AQ.thenRet ?_
    refine AQ.ret1 Try.results35 rfl ?_
    exact ⟨by rw [downW, if_pos hb0], ((h1.trans h2).trans h3)⟩
  ·
    have hb0 : bad4 x n = false := hb0
    refine EC.skip ?_
    refine AQ.then ?_
    refine EC.seq ?_
    -- region 3  word.go:74
    refine EC.region (fun i => [1, 1, 1, 1].getD i 0) [0, 1, 2, 3] rfl ?_
    refine ER.sil rfl rfl rfl rfl (Sil.move rfl) ?_  -- 3.0: t21 := move
    refine ER.sil rfl rfl rfl rfl (Sil.move rfl) ?_  -- 3.1: t22 := move
    refine ER.sil rfl rfl rfl rfl (Sil.rem rfl rfl (by intro e; rw [e] at hb0; simp [bad4] at hb0)) ?_  -- 3.2: t23 := binOp
    refine ER.sil rfl rfl rfl rfl (Sil.assign rfl) ?_  -- 3.3: t5 := assign
    refine ER.nil (fun w4 h4 => ?_)
    refine AQ.then ?_
    refine EC.seq ?_
    refine EC.seq ?_
    -- region 4  word.go:75
    refine EC.region (fun i => [1, 1].getD i 0) [0, 1] rfl ?_
    refine ER.sil rfl rfl rfl rfl (Sil.move rfl) ?_  -- 4.0: t24 := move
    refine ER.sil rfl rfl rfl rfl (Sil.lss rfl rfl) ?_  -- 4.1: t25 := binOp
    refine ER.nil (fun w5 h5 => ?_)
    refine AQ.then ?_
    refine EC.cond rfl (fun hb1 => ?_) (fun hb1 => ?_)  -- cond 1: t25
    ·
      -- region 5  word.go:76
      refine EC.region (fun i => [1, 1, 1, 1].getD i 0) [0, 1, 2, 3] rfl ?_
      refine ER.sil rfl rfl rfl rfl (Sil.move rfl) ?_  -- 5.0: t26 := move
      refine ER.sil rfl rfl rfl rfl (Sil.move rfl) ?_  -- 5.1: t27 := move
      refine ER.sil rfl rfl rfl rfl (Sil.add rfl rfl) ?_  -- 5.2: t28 := binOp
      refine ER.sil rfl rfl rfl rfl (Sil.assign rfl) ?_  -- 5.3: t5 := assign
      refine ER.nil (fun w6 h6 => ?_)
      refine AQ.then ?_
      refine EC.seq ?_
      -- region 6  word.go:78
      refine EC.region (fun i => [1, 1, 1, 1].getD i 0) [0, 1, 2, 3] rfl ?_
      refine ER.sil rfl rfl rfl rfl (Sil.move rfl) ?_  -- 6.0: t29 := move
      refine ER.sil rfl rfl rfl rfl (Sil.move rfl) ?_  -- 6.1: t30 := move
      refine ER.sil rfl rfl rfl rfl (Sil.sub rfl rfl) ?_  -- 6.2: t31 := binOp
      refine ER.sil rfl rfl rfl rfl (Sil.assign rfl) ?_  -- 6.3: t4 := assign
      refine ER.nil (fun w7 h7 => ?_)
      refine AQ.then ?_
      refine EC.ret ?_
      refine AQ.ret1 Try.results35 rfl ?_
      exact ⟨by rw [downW, if_neg (by rw [hb0]; exact Bool.false_ne_true), if_pos (by simpa using hb1)], (((((h1.trans h2).trans h4).trans h5).trans h6).trans h7)⟩
    ·
      refine EC.skip ?_
      refine AQ.then ?_
      refine EC.seq ?_
      -- region 6  word.go:78
      refine EC.region (fun i => [1, 1, 1, 1].getD i 0) [0, 1, 2, 3] rfl ?_
      refine ER.sil rfl rfl rfl rfl (Sil.move rfl) ?_  -- 6.0: t29 := move
      refine ER.sil rfl rfl rfl rfl (Sil.move rfl) ?_  -- 6.1: t30 := move
      refine ER.sil rfl rfl rfl rfl (Sil.sub rfl rfl) ?_  -- 6.2: t31 := binOp
      refine ER.sil rfl rfl rfl rfl (Sil.assign rfl) ?_  -- 6.3: t4 := assign
      refine ER.nil (fun w8 h8 => ?_)
      refine AQ.then ?_
      refine EC.ret ?_
      refine AQ.ret1 Try.results35 rfl ?_
      exact ⟨by rw [downW, if_neg (by rw [hb0]; exact Bool.false_ne_true), if_neg (by simpa using hb1)], ((((h1.trans h2).trans h4).trans h5).trans h8)⟩

-- linchpin/word.Up: parameters ['int', 'int'] (free 0), results [('ResultVar.tmp', 4)], 16 slots
theorem up_any (x n : Int) (w : World) :
    Calls Try.prog 25 [.int .i64 x, .int .i64 n].toArray w fun e w' => e = .returned (.int .i64 (upW x n)) ∧ Ext w w' := by
  refine calls_of Try.func25 rfl Try.ntmps25 rfl ?_
  refine EC.seq ?_
  -- region 0  word.go:62
  refine EC.region (fun i => [1].getD i 0) [0] rfl ?_
  refine ER.sil rfl rfl rfl rfl (Sil.assign rfl) ?_  -- 0.0: t4 := assign
  refine ER.nil (fun w1 h1 => ?_)
  refine AQ.then ?_
  refine EC.seq ?_
  refine EC.seq ?_
  -- region 1  word.go:63
  refine EC.region (fun i => [1, 1, 0, 1].getD i 0) [0, 1, 2, 3] rfl ?_
  refine ER.sil rfl rfl rfl rfl (Sil.move rfl) ?_  -- 1.0: t6 := move
  refine ER.sil rfl rfl rfl rfl (Sil.move rfl) ?_  -- 1.1: t7 := move
  refine ER.ex rfl rfl rfl rfl (Exa.call fok35 rfl rfl (fun wx hx => (down_any x n wx))) ?_  -- 1.2: t8 := call
  refine ER.sil rfl rfl rfl rfl (Sil.assign rfl) ?_  -- 1.3: t5 := assign
  refine ER.nil (fun w2 h2 => ?_)
  refine AQ.then ?_
  refine EC.seq ?_
  -- region 2  word.go:63
  refine EC.region (fun i => [1, 1, 1].getD i 0) [0, 1, 2] rfl ?_
  refine ER.sil rfl rfl rfl rfl (Sil.move rfl) ?_  -- 2.0: t9 := move
  refine ER.sil rfl rfl rfl rfl (Sil.move rfl) ?_  -- 2.1: t10 := move
  refine ER.sil rfl rfl rfl rfl (Sil.neq rfl rfl) ?_  -- 2.2: t11 := binOp
  refine ER.nil (fun w3 h3 => ?_)
  refine AQ.then ?_
  refine EC.cond rfl (fun hb0 => ?_) (fun hb0 => ?_)  -- cond 0: t11
  ·
    refine EC.seq ?_
    -- region 3  word.go:64
    refine EC.region (fun i => [1, 1, 1, 1].getD i 0) [0, 1, 2, 3] rfl ?_
    refine ER.sil rfl rfl rfl rfl (Sil.move rfl) ?_  -- 3.0: t12 := move
    refine ER.sil rfl rfl rfl rfl (Sil.move rfl) ?_  -- 3.1: t13 := move
    refine ER.sil rfl rfl rfl rfl (Sil.add rfl rfl) ?_  -- 3.2: t14 := binOp
    refine ER.sil rfl rfl rfl rfl (Sil.assign rfl) ?_  -- 3.3: t4 := assign
    refine ER.nil (fun w4 h4 => ?_)
    refine AQ.then ?_
    refine EC.ret ?_
    refine AQ.thenRet ?_
    refine AQ.ret1 Try.results25 rfl ?_
    exact ⟨by rw [upW, if_pos hb0], (((h1.trans h2).trans h3).trans h4)⟩
  ·
    refine EC.skip ?_
    refine AQ.then ?_
    refine EC.seq ?_
    -- region 4  word.go:66
    refine EC.region (fun i => [1, 1].getD i 0) [0, 1] rfl ?_
    refine ER.sil rfl rfl rfl rfl (Sil.move rfl) ?_  -- 4.0: t15 := move
    refine ER.sil rfl rfl rfl rfl (Sil.assign rfl) ?_  -- 4.1: t4 := assign
    refine ER.nil (fun w5 h5 => ?_)
    refine AQ.then ?_
    refine EC.ret ?_
    refine AQ.ret1 Try.results25 rfl ?_
    exact ⟨by rw [upW, if_neg (by rw [hb0]; exact Bool.false_ne_true)], (((h1.trans h2).trans h3).trans h5)⟩

-- linchpin/room.Fit: parameters ['[]api.Span', 'int', 'int', 'int', 'int'] (free 0), results [('ResultVar.tmp', 10), ('ResultVar.tmp', 11)], 60 slots
theorem fit_any (l : List Sp) (v : Value) (w : World) (hl : Spans w v l) (size align from_ until_ : Int) :
    Calls Try.prog 9 [v, .int .i64 size, .int .i64 align, .int .i64 from_, .int .i64 until_].toArray w fun e w' => e = .returned (.tuple #[.int .i64 (fitB l size align from_ until_).1, .bool (fitB l size align from_ until_).2]) ∧ Ext w w' := by
  obtain ⟨b0, c0, rfl, hm⟩ := Spans.len hl
  refine calls_of Try.func9 rfl Try.ntmps9 rfl ?_
  refine EC.seq ?_
  -- region 0  room.go:84
  refine EC.region (fun i => [1, 1].getD i 0) [0, 1] rfl ?_
  refine ER.sil rfl rfl rfl rfl (Sil.assign rfl) ?_  -- 0.0: t10 := assign
  refine ER.sil rfl rfl rfl rfl (Sil.assign rfl) ?_  -- 0.1: t11 := assign
  refine ER.nil (fun w1 h1 => ?_)
  refine AQ.then ?_
  refine EC.seq ?_
  refine EC.seq ?_
  -- region 1  room.go:85
  refine EC.region (fun i => [1, 0, 1, 1, 1, 1, 1, 1, 1, 1, 1, 1, 1, 1, 1, 1, 1, 1, 1, 1, 1, 1, 1].getD i 0) [0, 1, 2, 3, 4, 5, 6, 7, 8, 9, 10, 11, 12, 13, 14, 15, 16, 17, 18, 19, 20, 21, 22] rfl ?_
  refine ER.sil rfl rfl rfl rfl (Sil.move rfl) ?_  -- 1.0: t15 := move
  refine ER.ex rfl rfl rfl rfl (Exa.call fok16 rfl rfl (fun wx hx => (right_any l _ wx (hl.ext (h1.trans hx))))) ?_  -- 1.1: t16 := call
  refine ER.sil rfl rfl rfl rfl (Sil.not rfl) ?_  -- 1.2: t17 := unOp
  refine ER.sil rfl rfl rfl rfl (Sil.move rfl) ?_  -- 1.3: t18 := move
  refine ER.silG rfl rfl rfl rfl rfl rfl (fun hc => Sil.move rfl) ?_  -- 1.4: t19 := move
  refine ER.silG rfl rfl rfl rfl rfl rfl (fun hc => Sil.lss (congrArg some (sel_eq hc _)) rfl) ?_  -- 1.5: t20 := binOp
  refine ER.sil rfl rfl rfl rfl (Sil.pickOr rfl rfl rfl) ?_  -- 1.6: t21 := pick
  refine ER.sil rfl rfl rfl rfl (Sil.move rfl) ?_  -- 1.7: t22 := move
  refine ER.silG rfl rfl rfl rfl rfl rfl (fun hc => Sil.move rfl) ?_  -- 1.8: t23 := move
  refine ER.silG rfl rfl rfl rfl rfl rfl (fun hc => Sil.gtr (congrArg some (sel_eq hc _)) rfl) ?_  -- 1.9: t24 := binOp
  refine ER.sil rfl rfl rfl rfl (Sil.pickOr rfl rfl rfl) ?_  -- 1.10: t25 := pick
  refine ER.sil rfl rfl rfl rfl (Sil.move rfl) ?_  -- 1.11: t26 := move
  refine ER.silG rfl rfl rfl rfl rfl rfl (fun hc => Sil.move rfl) ?_  -- 1.12: t27 := move
  refine ER.silG rfl rfl rfl rfl rfl rfl (fun hc => Sil.lss (congrArg some (sel_eq hc _)) rfl) ?_  -- 1.13: t28 := binOp
  refine ER.sil rfl rfl rfl rfl (Sil.pickOr rfl rfl rfl) ?_  -- 1.14: t29 := pick
  refine ER.sil rfl rfl rfl rfl (Sil.move rfl) ?_  -- 1.15: t30 := move
  refine ER.silG rfl rfl rfl rfl rfl rfl (fun hc => Sil.move rfl) ?_  -- 1.16: t31 := move
  refine ER.silG rfl rfl rfl rfl rfl rfl (fun hc => Sil.gtr (congrArg some (sel_eq hc _)) rfl) ?_  -- 1.17: t32 := binOp
  refine ER.sil rfl rfl rfl rfl (Sil.pickOr rfl rfl rfl) ?_  -- 1.18: t33 := pick
  refine ER.sil rfl rfl rfl rfl (Sil.move rfl) ?_  -- 1.19: t34 := move
  refine ER.silG rfl rfl rfl rfl rfl rfl (fun hc => Sil.move rfl) ?_  -- 1.20: t35 := move
  refine ER.silG rfl rfl rfl rfl rfl rfl (fun hc => Sil.gtr (congrArg some (sel_eq hc _)) rfl) ?_  -- 1.21: t36 := binOp
  refine ER.sil rfl rfl rfl rfl (Sil.pickOr rfl rfl rfl) ?_  -- 1.22: t37 := pick
  refine ER.nil (fun w2 h2 => ?_)
  refine AQ.then ?_
  refine EC.cond rfl (fun hb0 => ?_) (fun hb0 => ?_)  -- cond 0: t37
  ·
    refine EC.seq ?_
    -- region 2  room.go:86
    refine EC.region (fun i => [1, 1].getD i 0) [0, 1] rfl ?_
    refine ER.sil rfl rfl rfl rfl (Sil.assign rfl) ?_  -- 2.0: t10 := assign
    refine ER.sil rfl rfl rfl rfl (Sil.assign rfl) ?_  -- 2.1: t11 := assign
    refine ER.nil (fun w3 h3 => ?_)
    refine AQ.then ?_
    refine EC.ret ?_
    refine AQ.thenRet ?_
    refine AQ.ret2 Try.results9 rfl rfl ?_
    have hb0 : fitBad l size align from_ = true := hb0
    exact ⟨by rw [fitB, if_pos hb0], ((h1.trans h2).trans h3)⟩
  ·
    have hb0 : fitBad l size align from_ = false := hb0
    have hfb : fitB l size align from_ until_ = fitGo size align from_ until_ l := by rw [fitB, if_neg (by rw [hb0]; exact Bool.false_ne_true)]
    refine EC.skip ?_
    refine AQ.then ?_
    refine EC.seq ?_
    refine EC.seq ?_
    -- region 3  room.go:88
    refine EC.region (fun i => [1, 1, 1].getD i 0) [0, 1, 2] rfl ?_
    refine ER.sil rfl rfl rfl rfl (Sil.move rfl) ?_  -- 3.0: t38 := move
    refine ER.sil rfl rfl rfl rfl (Sil.len Try.underlying22 rfl) ?_  -- 3.1: t39 := call
    refine ER.sil rfl rfl rfl rfl (Sil.move rfl) ?_  -- 3.2: t40 := move
    refine ER.nil (fun w4 h4 => ?_)
    refine AQ.then ?_
    refine EC.block ?_
    refine EC.loop (σ := Nat) (fun k => [(0, .slice b0 l.length c0), (1, .int .i64 size), (2, .int .i64 align), (3, .int .i64 from_), (4, .int .i64 until_), (38, .slice b0 l.length c0), (39, .int .i64 (l.length : Int)), (40, .int .i64 (k : Int))]) (fun k wr => Ext w wr ∧ k ≤ l.length ∧ fitGo size align from_ until_ (l.drop k) = fitGo size align from_ until_ l) (fun k => l.length - k) 0 [0, 1, 2, 3, 4, 38, 39, 40] rfl ?_ (fun k wr hF => ?_)
    · exact ⟨((h1.trans h2).trans h4), Nat.zero_le _, rfl⟩
    obtain ⟨hE, hk, hok⟩ := hF
    refine EC.seq ?_
    -- region 4  room.go:88
    refine EC.region (fun i => [1].getD i 0) [0] rfl ?_
    refine ER.sil rfl rfl rfl rfl (Sil.lss rfl rfl) ?_  -- 4.0: t41 := binOp
    refine ER.nil (fun w5 h5 => ?_)
    refine AQ.then ?_
    refine EC.seq ?_
    refine EC.cond rfl (fun hb1 => ?_) (fun hb1 => ?_)  -- cond 1: t41
    ·
      have hlt : k < l.length := by simpa using hb1
      obtain ⟨b, o, rfl, hat⟩ := Spans.has (hl.ext (hE.trans h5)) hlt
      rw [drop_gt hlt, fitGo] at hok
      refine EC.skip ?_
      refine AQ.then ?_
      refine EC.seq ?_
      refine EC.block ?_
      refine EC.seq ?_
      -- region 5  room.go:88
      refine EC.region (fun i => [1, 0, 2, 3].getD i 0) [0, 1, 2, 3] rfl ?_
      refine ER.sil rfl rfl rfl rfl (Sil.indexAddr Try.underlying22 inf24 rfl rfl (by omega) (by omega)) ?_  -- 5.0: t42 := indexAddr
      refine ER.ex rfl rfl rfl rfl (Exa.loadAgg (vs := spC (gt l k)) agg24 rfl (Spans.at hat hlt)) ?_  -- 5.1: t43 := load
      refine ER.st rfl rfl rfl rfl (fun w6 h6 => Stp.alloc inf24 (fun w7 h7 s7 r7 => ⟨h7, ?_⟩))  -- 5.2: t13 := alloc
      refine ER.bar rfl rfl rfl rfl (fun w8 h8 => Stp.store (by kernel_rfl) rfl rfl (r7.ext h8) rfl rfl (fun w9 u9 r9 => ?_))  -- 5.3: tNone := store
      have e9 := ((h6.trans h7).trans h8).upd u9 h6.size
      refine ER.nil (fun w10 h10 => ?_)
      refine AQ.then ?_
      refine EC.seq ?_
      -- region 6  room.go:89
      refine EC.region (fun i => [1, 0, 1, 1, 1, 0, 1].getD i 0) [0, 1, 2, 3, 4, 5, 6] rfl ?_
      refine ER.sil rfl rfl rfl rfl (Sil.fieldAddr Try.underlying24 rfl inf3 rfl) ?_  -- 6.0: t44 := fieldAddr
      refine ER.ex rfl rfl rfl rfl (Exa.load flat3 rfl ((r9.ext h10).cell rfl)) ?_  -- 6.1: t45 := load
      refine ER.sil rfl rfl rfl rfl (Sil.move rfl) ?_  -- 6.2: t46 := move
      refine ER.sil rfl rfl rfl rfl (Sil.max rfl rfl) ?_  -- 6.3: t47 := call
      refine ER.sil rfl rfl rfl rfl (Sil.move rfl) ?_  -- 6.4: t48 := move
      refine ER.ex rfl rfl rfl rfl (Exa.call fok25 rfl rfl (fun wx hx => (up_any _ _ wx))) ?_  -- 6.5: t49 := call
      refine ER.sil rfl rfl rfl rfl (Sil.assign rfl) ?_  -- 6.6: t14 := assign
      refine ER.nil (fun w11 h11 => ?_)
      refine AQ.then ?_
      refine EC.seq ?_
      -- region 7  room.go:90
      refine EC.region (fun i => [1, 1, 1, 0, 0, 1, 1, 1].getD i 0) [0, 1, 2, 3, 4, 5, 6, 7] rfl ?_
      refine ER.sil rfl rfl rfl rfl (Sil.move rfl) ?_  -- 7.0: t50 := move
      refine ER.sil rfl rfl rfl rfl (Sil.move rfl) ?_  -- 7.1: t51 := move
      refine ER.sil rfl rfl rfl rfl (Sil.add rfl rfl) ?_  -- 7.2: t52 := binOp
      refine ER.ex rfl rfl rfl rfl (Exa.loadAgg (vs := spC (gt l k)) agg24 rfl ((r9.ext (h10.trans h11)).at)) ?_  -- 7.3: t53 := load
      refine ER.ex rfl rfl rfl rfl (Exa.call fok26 rfl rfl (fun wx hx => (end_any (gt l k) wx))) ?_  -- 7.4: t54 := call
      refine ER.sil rfl rfl rfl rfl (Sil.move rfl) ?_  -- 7.5: t55 := move
      refine ER.sil rfl rfl rfl rfl (Sil.min rfl rfl) ?_  -- 7.6: t56 := call
      refine ER.sil rfl rfl rfl rfl (Sil.leq rfl rfl) ?_  -- 7.7: t57 := binOp
      refine ER.nil (fun w12 h12 => ?_)
      refine AQ.then ?_
      refine EC.cond rfl (fun hb2 => ?_) (fun hb2 => ?_)  -- cond 2: t57
      ·
        rw [if_pos (of_decide_eq_true hb2)] at hok
        refine EC.seq ?_
        -- region 8  room.go:91
        refine EC.region (fun i => [1, 1, 1].getD i 0) [0, 1, 2] rfl ?_
        refine ER.sil rfl rfl rfl rfl (Sil.move rfl) ?_  -- 8.0: t58 := move
        refine ER.sil rfl rfl rfl rfl (Sil.assign rfl) ?_  -- 8.1: t10 := assign
        refine ER.sil rfl rfl rfl rfl (Sil.assign rfl) ?_  -- 8.2: t11 := assign
        refine ER.nil (fun w13 h13 => ?_)
        refine AQ.then ?_
        refine EC.ret ?_
        refine AQ.blockRet ?_
        refine AQ.thenRet ?_
        refine AQ.thenRet ?_
        refine AQ.blockRet ?_
        refine AQ.thenRet ?_
        refine AQ.ret2 Try.results9 rfl rfl ?_
        exact ⟨by rw [hfb, ← hok], ((((((hE.trans h5).trans e9).trans h10).trans h11).trans h12).trans h13)⟩
      ·
        rw [if_neg (of_decide_eq_false hb2)] at hok
        refine EC.skip ?_
        refine AQ.blockNormal ?_
        refine AQ.then ?_
        -- region 9  room.go:88
        refine EC.region (fun i => [1, 1].getD i 0) [0, 1] rfl ?_
        refine ER.sil rfl rfl rfl rfl (Sil.add rfl rfl) ?_  -- 9.0: t59 := binOp
        refine ER.sil rfl rfl rfl rfl (Sil.move rfl) ?_  -- 9.1: t40 := move
        refine ER.nil (fun w14 h14 => ?_)
        refine AQ.round (k + 1) [0, 1, 2, 3, 4, 38, 39, 40] (by rw [← wrap_succ hlt hm]; rfl) ⟨((((((hE.trans h5).trans e9).trans h10).trans h11).trans h12).trans h14), hlt, hok⟩ (by omega)
    ·
      refine EC.exit ?_
      refine AQ.thenExit ?_
      refine AQ.thenExit ?_
      refine AQ.blockHit ?_
      refine AQ.then ?_
      refine EC.seq ?_
      -- region 10  room.go:94
      refine EC.region (fun i => [1, 1].getD i 0) [0, 1] rfl ?_
      refine ER.sil rfl rfl rfl rfl (Sil.assign rfl) ?_  -- 10.0: t10 := assign
      refine ER.sil rfl rfl rfl rfl (Sil.assign rfl) ?_  -- 10.1: t11 := assign
      refine ER.nil (fun w15 h15 => ?_)
      refine AQ.then ?_
      refine EC.ret ?_
      refine AQ.ret2 Try.results9 rfl rfl ?_
      have hge : k = l.length := by have : ¬ ((k : Int) < l.length) := (by simpa using hb1); omega
      subst hge
      exact ⟨by rw [hfb, ← hok]; simp [fitGo], ((hE.trans h5).trans h15)⟩

end Go.Proofs.Ytnnmeipmkfbpdaa
