/- Room: the reference's Add, Cut, Has, Meets, Fit. -/
import Derived.Test.YtnnmeipmkfbpdaaW9
namespace Go.Proofs.Ytnnmeipmkfbpdaa
open Go.RowKit Go.XK Go.RoomLaw

-- linchpin/linchpinref04.Add: parameters ['[]api.Span', 'api.Span'] (free 0), results [('ResultVar.tmp', 4)], 23 slots
theorem refAdd_any (l : List Sp) (v : Value) (s : Sp) (w : World) (hl : Spans w v l) (hn : l.length ≤ 400) :
    Calls Try.prog 13 [v, spV s].toArray w fun e w' => ∃ v', e = .returned v' ∧ Ext w w' ∧ w'.ownsRow w.heap.size 24 2 v' (refAddB l s).length (spCs (refAddB l s)) := by
  refine calls_of Try.func13 rfl Try.ntmps13 rfl ?_
  refine EC.seq ?_
  -- region 0  ref.go:72
  refine EC.region (fun i => [2, 1].getD i 0) [0, 1] rfl ?_
  refine ER.st rfl rfl rfl rfl (fun w1 h1 => Stp.box rfl (fun w2 h2 s2 r2 => ⟨h2, ?_⟩))  -- 0.0: t3 := box
  refine ER.sil rfl rfl rfl rfl (Sil.assign rfl) ?_  -- 0.1: t4 := assign
  refine ER.nil (fun w3 h3 => ?_)
  refine AQ.then ?_
  refine EC.seq ?_
  -- region 1  ref.go:73
  refine EC.region (fun i => [1, 0, 1].getD i 0) [0, 1, 2] rfl ?_
  refine ER.sil rfl rfl rfl rfl (Sil.move rfl) ?_  -- 1.0: t7 := move
  refine ER.ex rfl rfl rfl rfl (Exa.call fok17 rfl rfl (fun wx hx => (refRight_any l v wx (hl.ext (((h1.trans h2).trans h3).trans hx))))) ?_  -- 1.1: t8 := call
  refine ER.sil rfl rfl rfl rfl (Sil.assign rfl) ?_  -- 1.2: t5 := assign
  refine ER.nil (fun w4 h4 => ?_)
  refine AQ.then ?_
  refine EC.seq ?_
  -- region 2  ref.go:74
  refine EC.region (fun i => [0, 0, 1].getD i 0) [0, 1, 2] rfl ?_
  refine ER.ex rfl rfl rfl rfl (Exa.loadAgg (vs := spC s) agg24 rfl ((r2.ext (h3.trans h4)).at)) ?_  -- 2.0: t9 := load
  refine ER.ex rfl rfl rfl rfl (Exa.call fok29 rfl rfl (fun wx hx => (refValid_any s wx))) ?_  -- 2.1: t10 := call
  refine ER.sil rfl rfl rfl rfl (Sil.assign rfl) ?_  -- 2.2: t6 := assign
  refine ER.nil (fun w5 h5 => ?_)
  refine AQ.then ?_
  refine EC.seq ?_
  refine EC.seq ?_
  -- region 3  ref.go:75
  refine EC.region (fun i => [1, 1, 1, 1, 1, 1].getD i 0) [0, 1, 2, 3, 4, 5] rfl ?_
  refine ER.sil rfl rfl rfl rfl (Sil.move rfl) ?_  -- 3.0: t11 := move
  refine ER.sil rfl rfl rfl rfl (Sil.not rfl) ?_  -- 3.1: t12 := unOp
  refine ER.sil rfl rfl rfl rfl (Sil.move rfl) ?_  -- 3.2: t13 := move
  refine ER.silG rfl rfl rfl rfl rfl rfl (fun hc => Sil.move rfl) ?_  -- 3.3: t14 := move
  refine ER.silG rfl rfl rfl rfl rfl rfl (fun hc => Sil.not (congrArg some (sel_eq hc _))) ?_  -- 3.4: t15 := unOp
  refine ER.sil rfl rfl rfl rfl (Sil.pickOr rfl rfl rfl) ?_  -- 3.5: t16 := pick
  refine ER.nil (fun w6 h6 => ?_)
  refine AQ.then ?_
  refine EC.cond rfl (fun hb0 => ?_) (fun hb0 => ?_)  -- cond 0: t16
  ·
    have hs : refAddB l s = l := by rw [refAddB, if_pos hb0]
    refine EC.seq ?_
    -- region 4  ref.go:76
    refine EC.region (fun i => [2, 1, 2, 1].getD i 0) [0, 1, 2, 3] rfl ?_
    refine ER.st rfl rfl rfl rfl (fun w7 h7 => Stp.buildNil Try.underlying22 inf24 (fun w8 h8 s8 r8 => ⟨h8, ?_⟩))  -- 4.0: t17 := buildSlice
    have hq := Nat.le_trans (((((h1.trans h2).trans h3).trans h4).trans h5).trans h6).size h7.size
    refine ER.sil rfl rfl rfl rfl (Sil.move rfl) ?_  -- 4.1: t18 := move
    refine ER.st rfl rfl rfl rfl (fun w9 h9 => ?_)  -- 4.2: t19 := call
    refine Stp.appendNew Try.underlying22 inf24 rfl rfl rfl (r8.ext h9) (hq) (hl.ext ((((((((h1.trans h2).trans h3).trans h4).trans h5).trans h6).trans h7).trans h8).trans h9)) (by first | omega | (simp only [List.length_append, List.length_cons, List.length_nil]; omega)) (by unfold maxLen; first | omega | (simp only [List.length_append, List.length_cons, List.length_nil]; omega)) (fun v10 w10 h10 o10 => ⟨h10, ?_⟩)
    refine ER.sil rfl rfl rfl rfl (Sil.assign rfl) ?_  -- 4.3: t4 := assign
    refine ER.nil (fun w11 h11 => ?_)
    refine AQ.then ?_
    refine EC.ret ?_
    refine AQ.thenRet ?_
    refine AQ.ret1 Try.results13 rfl ?_
    exact ⟨_, rfl, ((((((((((h1.trans h2).trans h3).trans h4).trans h5).trans h6).trans h7).trans h8).trans h9).trans h10).trans h11), by rw [hs]; exact own_base (Ext.own o10 h11) (Nat.le_refl _)⟩
  ·
    have hs : refAddB l s = ofL l s true := by rw [refAddB, if_neg (by rw [hb0]; exact Bool.false_ne_true)]
    refine EC.skip ?_
    refine AQ.then ?_
    refine EC.seq ?_
    -- region 5  ref.go:78
    refine EC.region (fun i => [1, 0, 2, 1].getD i 0) [0, 1, 2, 3] rfl ?_
    refine ER.sil rfl rfl rfl rfl (Sil.move rfl) ?_  -- 5.0: t20 := move
    refine ER.ex rfl rfl rfl rfl (Exa.loadAgg (vs := spC s) agg24 rfl ((r2.ext (((h3.trans h4).trans h5).trans h6)).at)) ?_  -- 5.1: t21 := load
    refine ER.st rfl rfl rfl rfl (fun w12 h12 => Stp.call fok30 rfl rfl (Calls.mono ((refOf_any l v s true w12 (hl.ext ((((((h1.trans h2).trans h3).trans h4).trans h5).trans h6).trans h12)) (by omega))) ?_))  -- 5.2: t22 := call
    rintro _ w13 ⟨v13, rfl, h13, out13⟩
    refine ⟨v13, rfl, h13, ?_⟩
    have hq := Nat.le_trans (((((h1.trans h2).trans h3).trans h4).trans h5).trans h6).size h12.size
    refine ER.sil rfl rfl rfl rfl (Sil.assign rfl) ?_  -- 5.3: t4 := assign
    refine ER.nil (fun w14 h14 => ?_)
    refine AQ.then ?_
    refine EC.ret ?_
    refine AQ.ret1 Try.results13 rfl ?_
    exact ⟨_, rfl, ((((((((h1.trans h2).trans h3).trans h4).trans h5).trans h6).trans h12).trans h13).trans h14), by rw [hs]; exact own_base (Ext.own out13 h14) hq⟩

-- linchpin/linchpinref04.Cut: parameters ['[]api.Span', 'api.Span'] (free 0), results [('ResultVar.tmp', 4)], 23 slots
theorem refCut_any (l : List Sp) (v : Value) (s : Sp) (w : World) (hl : Spans w v l) (hn : l.length ≤ 400) :
    Calls Try.prog 15 [v, spV s].toArray w fun e w' => ∃ v', e = .returned v' ∧ Ext w w' ∧ w'.ownsRow w.heap.size 24 2 v' (refCutB l s).length (spCs (refCutB l s)) := by
  refine calls_of Try.func15 rfl Try.ntmps15 rfl ?_
  refine EC.seq ?_
  -- region 0  ref.go:82
  refine EC.region (fun i => [2, 1].getD i 0) [0, 1] rfl ?_
  refine ER.st rfl rfl rfl rfl (fun w1 h1 => Stp.box rfl (fun w2 h2 s2 r2 => ⟨h2, ?_⟩))  -- 0.0: t3 := box
  refine ER.sil rfl rfl rfl rfl (Sil.assign rfl) ?_  -- 0.1: t4 := assign
  refine ER.nil (fun w3 h3 => ?_)
  refine AQ.then ?_
  refine EC.seq ?_
  -- region 1  ref.go:83
  refine EC.region (fun i => [1, 0, 1].getD i 0) [0, 1, 2] rfl ?_
  refine ER.sil rfl rfl rfl rfl (Sil.move rfl) ?_  -- 1.0: t7 := move
  refine ER.ex rfl rfl rfl rfl (Exa.call fok17 rfl rfl (fun wx hx => (refRight_any l v wx (hl.ext (((h1.trans h2).trans h3).trans hx))))) ?_  -- 1.1: t8 := call
  refine ER.sil rfl rfl rfl rfl (Sil.assign rfl) ?_  -- 1.2: t5 := assign
  refine ER.nil (fun w4 h4 => ?_)
  refine AQ.then ?_
  refine EC.seq ?_
  -- region 2  ref.go:84
  refine EC.region (fun i => [0, 0, 1].getD i 0) [0, 1, 2] rfl ?_
  refine ER.ex rfl rfl rfl rfl (Exa.loadAgg (vs := spC s) agg24 rfl ((r2.ext (h3.trans h4)).at)) ?_  -- 2.0: t9 := load
  refine ER.ex rfl rfl rfl rfl (Exa.call fok29 rfl rfl (fun wx hx => (refValid_any s wx))) ?_  -- 2.1: t10 := call
  refine ER.sil rfl rfl rfl rfl (Sil.assign rfl) ?_  -- 2.2: t6 := assign
  refine ER.nil (fun w5 h5 => ?_)
  refine AQ.then ?_
  refine EC.seq ?_
  refine EC.seq ?_
  -- region 3  ref.go:85
  refine EC.region (fun i => [1, 1, 1, 1, 1, 1].getD i 0) [0, 1, 2, 3, 4, 5] rfl ?_
  refine ER.sil rfl rfl rfl rfl (Sil.move rfl) ?_  -- 3.0: t11 := move
  refine ER.sil rfl rfl rfl rfl (Sil.not rfl) ?_  -- 3.1: t12 := unOp
  refine ER.sil rfl rfl rfl rfl (Sil.move rfl) ?_  -- 3.2: t13 := move
  refine ER.silG rfl rfl rfl rfl rfl rfl (fun hc => Sil.move rfl) ?_  -- 3.3: t14 := move
  refine ER.silG rfl rfl rfl rfl rfl rfl (fun hc => Sil.not (congrArg some (sel_eq hc _))) ?_  -- 3.4: t15 := unOp
  refine ER.sil rfl rfl rfl rfl (Sil.pickOr rfl rfl rfl) ?_  -- 3.5: t16 := pick
  refine ER.nil (fun w6 h6 => ?_)
  refine AQ.then ?_
  refine EC.cond rfl (fun hb0 => ?_) (fun hb0 => ?_)  -- cond 0: t16
  ·
    have hs : refCutB l s = l := by rw [refCutB, if_pos hb0]
    refine EC.seq ?_
    -- region 4  ref.go:86
    refine EC.region (fun i => [2, 1, 2, 1].getD i 0) [0, 1, 2, 3] rfl ?_
    refine ER.st rfl rfl rfl rfl (fun w7 h7 => Stp.buildNil Try.underlying22 inf24 (fun w8 h8 s8 r8 => ⟨h8, ?_⟩))  -- 4.0: t17 := buildSlice
    have hq := Nat.le_trans (((((h1.trans h2).trans h3).trans h4).trans h5).trans h6).size h7.size
    refine ER.sil rfl rfl rfl rfl (Sil.move rfl) ?_  -- 4.1: t18 := move
    refine ER.st rfl rfl rfl rfl (fun w9 h9 => ?_)  -- 4.2: t19 := call
    refine Stp.appendNew Try.underlying22 inf24 rfl rfl rfl (r8.ext h9) (hq) (hl.ext ((((((((h1.trans h2).trans h3).trans h4).trans h5).trans h6).trans h7).trans h8).trans h9)) (by first | omega | (simp only [List.length_append, List.length_cons, List.length_nil]; omega)) (by unfold maxLen; first | omega | (simp only [List.length_append, List.length_cons, List.length_nil]; omega)) (fun v10 w10 h10 o10 => ⟨h10, ?_⟩)
    refine ER.sil rfl rfl rfl rfl (Sil.assign rfl) ?_  -- 4.3: t4 := assign
    refine ER.nil (fun w11 h11 => ?_)
    refine AQ.then ?_
    refine EC.ret ?_
    refine AQ.thenRet ?_
    refine AQ.ret1 Try.results15 rfl ?_
    exact ⟨_, rfl, ((((((((((h1.trans h2).trans h3).trans h4).trans h5).trans h6).trans h7).trans h8).trans h9).trans h10).trans h11), by rw [hs]; exact own_base (Ext.own o10 h11) (Nat.le_refl _)⟩
  ·
    have hs : refCutB l s = ofL l s false := by rw [refCutB, if_neg (by rw [hb0]; exact Bool.false_ne_true)]
    refine EC.skip ?_
    refine AQ.then ?_
    refine EC.seq ?_
    -- region 5  ref.go:88
    refine EC.region (fun i => [1, 0, 2, 1].getD i 0) [0, 1, 2, 3] rfl ?_
    refine ER.sil rfl rfl rfl rfl (Sil.move rfl) ?_  -- 5.0: t20 := move
    refine ER.ex rfl rfl rfl rfl (Exa.loadAgg (vs := spC s) agg24 rfl ((r2.ext (((h3.trans h4).trans h5).trans h6)).at)) ?_  -- 5.1: t21 := load
    refine ER.st rfl rfl rfl rfl (fun w12 h12 => Stp.call fok30 rfl rfl (Calls.mono ((refOf_any l v s false w12 (hl.ext ((((((h1.trans h2).trans h3).trans h4).trans h5).trans h6).trans h12)) (by omega))) ?_))  -- 5.2: t22 := call
    rintro _ w13 ⟨v13, rfl, h13, out13⟩
    refine ⟨v13, rfl, h13, ?_⟩
    have hq := Nat.le_trans (((((h1.trans h2).trans h3).trans h4).trans h5).trans h6).size h12.size
    refine ER.sil rfl rfl rfl rfl (Sil.assign rfl) ?_  -- 5.3: t4 := assign
    refine ER.nil (fun w14 h14 => ?_)
    refine AQ.then ?_
    refine EC.ret ?_
    refine AQ.ret1 Try.results15 rfl ?_
    exact ⟨_, rfl, ((((((((h1.trans h2).trans h3).trans h4).trans h5).trans h6).trans h12).trans h13).trans h14), by rw [hs]; exact own_base (Ext.own out13 h14) hq⟩

-- linchpin/linchpinref04.Has: parameters ['[]api.Span', 'api.Span'] (free 0), results [('ResultVar.tmp', 4)], 24 slots
theorem refHas_any (l : List Sp) (v : Value) (s : Sp) (w : World) (hl : Spans w v l) (hn : l.length ≤ 400) :
    Calls Try.prog 21 [v, spV s].toArray w fun e w' => e = .returned (.bool (refHasB l s)) ∧ Ext w w' := by
  refine calls_of Try.func21 rfl Try.ntmps21 rfl ?_
  refine EC.seq ?_
  -- region 0  ref.go:102
  refine EC.region (fun i => [2, 1].getD i 0) [0, 1] rfl ?_
  refine ER.st rfl rfl rfl rfl (fun w1 h1 => Stp.box rfl (fun w2 h2 s2 r2 => ⟨h2, ?_⟩))  -- 0.0: t3 := box
  refine ER.sil rfl rfl rfl rfl (Sil.assign rfl) ?_  -- 0.1: t4 := assign
  refine ER.nil (fun w3 h3 => ?_)
  refine AQ.then ?_
  refine EC.seq ?_
  -- region 1  ref.go:103
  refine EC.region (fun i => [1, 0, 1].getD i 0) [0, 1, 2] rfl ?_
  refine ER.sil rfl rfl rfl rfl (Sil.move rfl) ?_  -- 1.0: t7 := move
  refine ER.ex rfl rfl rfl rfl (Exa.call fok17 rfl rfl (fun wx hx => (refRight_any l v wx (hl.ext (((h1.trans h2).trans h3).trans hx))))) ?_  -- 1.1: t8 := call
  refine ER.sil rfl rfl rfl rfl (Sil.assign rfl) ?_  -- 1.2: t5 := assign
  refine ER.nil (fun w4 h4 => ?_)
  refine AQ.then ?_
  refine EC.seq ?_
  -- region 2  ref.go:104
  refine EC.region (fun i => [0, 0, 1].getD i 0) [0, 1, 2] rfl ?_
  refine ER.ex rfl rfl rfl rfl (Exa.loadAgg (vs := spC s) agg24 rfl ((r2.ext (h3.trans h4)).at)) ?_  -- 2.0: t9 := load
  refine ER.ex rfl rfl rfl rfl (Exa.call fok29 rfl rfl (fun wx hx => (refValid_any s wx))) ?_  -- 2.1: t10 := call
  refine ER.sil rfl rfl rfl rfl (Sil.assign rfl) ?_  -- 2.2: t6 := assign
  refine ER.nil (fun w5 h5 => ?_)
  refine AQ.then ?_
  refine EC.seq ?_
  cases hsp3 : (rightB l && validB s)
  ·
    -- region 3  ref.go:105
    refine EC.region (fun i => [1, 1, 1, 1, 1, 1, 0, 2, 0, 1, 0, 1, 1, 1].getD i 0) [0, 1, 2, 3, 4, 5, 6, 7, 8, 9, 10, 11, 12, 13] rfl ?_
    refine ER.sil rfl rfl rfl rfl (Sil.move rfl) ?_  -- 3.0: t11 := move
    refine ER.sil rfl rfl rfl rfl (Sil.move rfl) ?_  -- 3.1: t12 := move
    refine ER.silG rfl rfl rfl rfl rfl rfl (fun hc => Sil.move rfl) ?_  -- 3.2: t13 := move
    refine ER.sil rfl rfl rfl rfl (Sil.pickAnd rfl rfl rfl) ?_  -- 3.3: t14 := pick
    refine ER.sil rfl rfl rfl rfl (Sil.move rfl) ?_  -- 3.4: t15 := move
    refine ER.skipG rfl rfl rfl rfl (by simp [hsp3]) rfl ?_  -- 3.5
    refine ER.skipG rfl rfl rfl rfl (by simp [hsp3]) rfl ?_  -- 3.6
    refine ER.skipG rfl rfl rfl rfl (by simp [hsp3]) rfl ?_  -- 3.7
    refine ER.skipG rfl rfl rfl rfl (by simp [hsp3]) rfl ?_  -- 3.8
    refine ER.skipG rfl rfl rfl rfl (by simp [hsp3]) rfl ?_  -- 3.9
    refine ER.skipG rfl rfl rfl rfl (by simp [hsp3]) rfl ?_  -- 3.10
    refine ER.skipG rfl rfl rfl rfl (by simp [hsp3]) rfl ?_  -- 3.11
    refine ER.sil rfl rfl rfl rfl (Sil.pick rfl rfl rfl) ?_  -- 3.12: t23 := pick
    refine ER.sil rfl rfl rfl rfl (Sil.assign rfl) ?_  -- 3.13: t4 := assign
    refine ER.nil (fun w6 h6 => ?_)
    refine AQ.then ?_
    refine EC.ret ?_
    refine AQ.ret1 Try.results21 rfl ?_
    exact ⟨by simp [refHasB, hsp3], (((((h1.trans h2).trans h3).trans h4).trans h5).trans h6)⟩
  ·
    -- region 3  ref.go:105
    refine EC.region (fun i => [1, 1, 1, 1, 1, 1, 0, 2, 0, 1, 0, 1, 1, 1].getD i 0) [0, 1, 2, 3, 4, 5, 6, 7, 8, 9, 10, 11, 12, 13] rfl ?_
    refine ER.sil rfl rfl rfl rfl (Sil.move rfl) ?_  -- 3.0: t11 := move
    refine ER.sil rfl rfl rfl rfl (Sil.move rfl) ?_  -- 3.1: t12 := move
    refine ER.silG rfl rfl rfl rfl rfl rfl (fun hc => Sil.move rfl) ?_  -- 3.2: t13 := move
    refine ER.sil rfl rfl rfl rfl (Sil.pickAnd rfl rfl rfl) ?_  -- 3.3: t14 := pick
    refine ER.sil rfl rfl rfl rfl (Sil.move rfl) ?_  -- 3.4: t15 := move
    refine ER.silD rfl rfl rfl rfl (by simp [hsp3]) rfl rfl (Sil.move rfl) ?_  -- 3.5: t16 := move
    refine ER.exD rfl rfl rfl rfl (by simp [hsp3]) rfl rfl (Exa.loadAgg (vs := spC s) agg24 rfl ((r2.ext ((h3.trans h4).trans h5)).at)) ?_  -- 3.6: t17 := load
    refine ER.stG rfl rfl rfl rfl (by simp [hsp3]) rfl rfl (fun w7 h7 => Stp.call fok13 rfl rfl (Calls.mono ((refAdd_any l v s w7 (hl.ext (((((h1.trans h2).trans h3).trans h4).trans h5).trans h7)) hn)) ?_))  -- 3.7: t18 := call
    rintro _ w8 ⟨v8, rfl, h8, out8⟩
    refine ⟨v8, rfl, h8, ?_⟩
    refine ER.exD rfl rfl rfl rfl (by simp [hsp3]) rfl rfl (Exa.call fok19 rfl rfl (fun wx hx => (refTotal_any (refAddB l s) _ wx ((Spans.of_own out8).ext hx)))) ?_  -- 3.8: t19 := call
    refine ER.silD rfl rfl rfl rfl (by simp [hsp3]) rfl rfl (Sil.move rfl) ?_  -- 3.9: t20 := move
    refine ER.exD rfl rfl rfl rfl (by simp [hsp3]) rfl rfl (Exa.call fok19 rfl rfl (fun wx hx => (refTotal_any l v wx (hl.ext (((((((h1.trans h2).trans h3).trans h4).trans h5).trans h7).trans h8).trans hx))))) ?_  -- 3.10: t21 := call
    refine ER.silD rfl rfl rfl rfl (by simp [hsp3]) rfl rfl (Sil.eql rfl rfl) ?_  -- 3.11: t22 := binOp
    refine ER.sil rfl rfl rfl rfl (Sil.pick rfl rfl rfl) ?_  -- 3.12: t23 := pick
    refine ER.sil rfl rfl rfl rfl (Sil.assign rfl) ?_  -- 3.13: t4 := assign
    refine ER.nil (fun w9 h9 => ?_)
    refine AQ.then ?_
    refine EC.ret ?_
    refine AQ.ret1 Try.results21 rfl ?_
    exact ⟨by simp [refHasB, hsp3], (((((((h1.trans h2).trans h3).trans h4).trans h5).trans h7).trans h8).trans h9)⟩

-- linchpin/linchpinref04.Meets: parameters ['[]api.Span', 'api.Span'] (free 0), results [('ResultVar.tmp', 4)], 24 slots
theorem refMeets_any (l : List Sp) (v : Value) (s : Sp) (w : World) (hl : Spans w v l) (hn : l.length ≤ 400) :
    Calls Try.prog 23 [v, spV s].toArray w fun e w' => e = .returned (.bool (refMeetsB l s)) ∧ Ext w w' := by
  refine calls_of Try.func23 rfl Try.ntmps23 rfl ?_
  refine EC.seq ?_
  -- region 0  ref.go:109
  refine EC.region (fun i => [2, 1].getD i 0) [0, 1] rfl ?_
  refine ER.st rfl rfl rfl rfl (fun w1 h1 => Stp.box rfl (fun w2 h2 s2 r2 => ⟨h2, ?_⟩))  -- 0.0: t3 := box
  refine ER.sil rfl rfl rfl rfl (Sil.assign rfl) ?_  -- 0.1: t4 := assign
  refine ER.nil (fun w3 h3 => ?_)
  refine AQ.then ?_
  refine EC.seq ?_
  -- region 1  ref.go:110
  refine EC.region (fun i => [1, 0, 1].getD i 0) [0, 1, 2] rfl ?_
  refine ER.sil rfl rfl rfl rfl (Sil.move rfl) ?_  -- 1.0: t7 := move
  refine ER.ex rfl rfl rfl rfl (Exa.call fok17 rfl rfl (fun wx hx => (refRight_any l v wx (hl.ext (((h1.trans h2).trans h3).trans hx))))) ?_  -- 1.1: t8 := call
  refine ER.sil rfl rfl rfl rfl (Sil.assign rfl) ?_  -- 1.2: t5 := assign
  refine ER.nil (fun w4 h4 => ?_)
  refine AQ.then ?_
  refine EC.seq ?_
  -- region 2  ref.go:111
  refine EC.region (fun i => [0, 0, 1].getD i 0) [0, 1, 2] rfl ?_
  refine ER.ex rfl rfl rfl rfl (Exa.loadAgg (vs := spC s) agg24 rfl ((r2.ext (h3.trans h4)).at)) ?_  -- 2.0: t9 := load
  refine ER.ex rfl rfl rfl rfl (Exa.call fok29 rfl rfl (fun wx hx => (refValid_any s wx))) ?_  -- 2.1: t10 := call
  refine ER.sil rfl rfl rfl rfl (Sil.assign rfl) ?_  -- 2.2: t6 := assign
  refine ER.nil (fun w5 h5 => ?_)
  refine AQ.then ?_
  refine EC.seq ?_
  cases hsp3 : (rightB l && validB s)
  ·
    -- region 3  ref.go:112
    refine EC.region (fun i => [1, 1, 1, 1, 1, 1, 0, 2, 0, 1, 0, 1, 1, 1].getD i 0) [0, 1, 2, 3, 4, 5, 6, 7, 8, 9, 10, 11, 12, 13] rfl ?_
    refine ER.sil rfl rfl rfl rfl (Sil.move rfl) ?_  -- 3.0: t11 := move
    refine ER.sil rfl rfl rfl rfl (Sil.move rfl) ?_  -- 3.1: t12 := move
    refine ER.silG rfl rfl rfl rfl rfl rfl (fun hc => Sil.move rfl) ?_  -- 3.2: t13 := move
    refine ER.sil rfl rfl rfl rfl (Sil.pickAnd rfl rfl rfl) ?_  -- 3.3: t14 := pick
    refine ER.sil rfl rfl rfl rfl (Sil.move rfl) ?_  -- 3.4: t15 := move
    refine ER.skipG rfl rfl rfl rfl (by simp [hsp3]) rfl ?_  -- 3.5
    refine ER.skipG rfl rfl rfl rfl (by simp [hsp3]) rfl ?_  -- 3.6
    refine ER.skipG rfl rfl rfl rfl (by simp [hsp3]) rfl ?_  -- 3.7
    refine ER.skipG rfl rfl rfl rfl (by simp [hsp3]) rfl ?_  -- 3.8
    refine ER.skipG rfl rfl rfl rfl (by simp [hsp3]) rfl ?_  -- 3.9
    refine ER.skipG rfl rfl rfl rfl (by simp [hsp3]) rfl ?_  -- 3.10
    refine ER.skipG rfl rfl rfl rfl (by simp [hsp3]) rfl ?_  -- 3.11
    refine ER.sil rfl rfl rfl rfl (Sil.pick rfl rfl rfl) ?_  -- 3.12: t23 := pick
    refine ER.sil rfl rfl rfl rfl (Sil.assign rfl) ?_  -- 3.13: t4 := assign
    refine ER.nil (fun w6 h6 => ?_)
    refine AQ.then ?_
    refine EC.ret ?_
    refine AQ.ret1 Try.results23 rfl ?_
    exact ⟨by simp [refMeetsB, hsp3], (((((h1.trans h2).trans h3).trans h4).trans h5).trans h6)⟩
  ·
    -- region 3  ref.go:112
    refine EC.region (fun i => [1, 1, 1, 1, 1, 1, 0, 2, 0, 1, 0, 1, 1, 1].getD i 0) [0, 1, 2, 3, 4, 5, 6, 7, 8, 9, 10, 11, 12, 13] rfl ?_
    refine ER.sil rfl rfl rfl rfl (Sil.move rfl) ?_  -- 3.0: t11 := move
    refine ER.sil rfl rfl rfl rfl (Sil.move rfl) ?_  -- 3.1: t12 := move
    refine ER.silG rfl rfl rfl rfl rfl rfl (fun hc => Sil.move rfl) ?_  -- 3.2: t13 := move
    refine ER.sil rfl rfl rfl rfl (Sil.pickAnd rfl rfl rfl) ?_  -- 3.3: t14 := pick
    refine ER.sil rfl rfl rfl rfl (Sil.move rfl) ?_  -- 3.4: t15 := move
    refine ER.silD rfl rfl rfl rfl (by simp [hsp3]) rfl rfl (Sil.move rfl) ?_  -- 3.5: t16 := move
    refine ER.exD rfl rfl rfl rfl (by simp [hsp3]) rfl rfl (Exa.loadAgg (vs := spC s) agg24 rfl ((r2.ext ((h3.trans h4).trans h5)).at)) ?_  -- 3.6: t17 := load
    refine ER.stG rfl rfl rfl rfl (by simp [hsp3]) rfl rfl (fun w7 h7 => Stp.call fok15 rfl rfl (Calls.mono ((refCut_any l v s w7 (hl.ext (((((h1.trans h2).trans h3).trans h4).trans h5).trans h7)) hn)) ?_))  -- 3.7: t18 := call
    rintro _ w8 ⟨v8, rfl, h8, out8⟩
    refine ⟨v8, rfl, h8, ?_⟩
    refine ER.exD rfl rfl rfl rfl (by simp [hsp3]) rfl rfl (Exa.call fok19 rfl rfl (fun wx hx => (refTotal_any (refCutB l s) _ wx ((Spans.of_own out8).ext hx)))) ?_  -- 3.8: t19 := call
    refine ER.silD rfl rfl rfl rfl (by simp [hsp3]) rfl rfl (Sil.move rfl) ?_  -- 3.9: t20 := move
    refine ER.exD rfl rfl rfl rfl (by simp [hsp3]) rfl rfl (Exa.call fok19 rfl rfl (fun wx hx => (refTotal_any l v wx (hl.ext (((((((h1.trans h2).trans h3).trans h4).trans h5).trans h7).trans h8).trans hx))))) ?_  -- 3.10: t21 := call
    refine ER.silD rfl rfl rfl rfl (by simp [hsp3]) rfl rfl (Sil.lss rfl rfl) ?_  -- 3.11: t22 := binOp
    refine ER.sil rfl rfl rfl rfl (Sil.pick rfl rfl rfl) ?_  -- 3.12: t23 := pick
    refine ER.sil rfl rfl rfl rfl (Sil.assign rfl) ?_  -- 3.13: t4 := assign
    refine ER.nil (fun w9 h9 => ?_)
    refine AQ.then ?_
    refine EC.ret ?_
    refine AQ.ret1 Try.results23 rfl ?_
    exact ⟨by simp [refMeetsB, hsp3], (((((((h1.trans h2).trans h3).trans h4).trans h5).trans h7).trans h8).trans h9)⟩

-- linchpin/linchpinref04.Fit: parameters ['[]api.Span', 'int', 'int', 'int', 'int'] (free 0), results [('ResultVar.tmp', 10), ('ResultVar.tmp', 11)], 86 slots
theorem refFit_any (l : List Sp) (v : Value) (w : World) (hl : Spans w v l) (size align from_ until_ : Int) :
    Calls Try.prog 10 [v, .int .i64 size, .int .i64 align, .int .i64 from_, .int .i64 until_].toArray w fun e w' => e = .returned (.tuple #[.int .i64 (refFitB l size align from_ until_).1, .bool (refFitB l size align from_ until_).2]) ∧ Ext w w' := by
  have hm := Reads.max hl
  refine calls_of Try.func10 rfl Try.ntmps10 rfl ?_
  refine EC.seq ?_
  -- region 0  ref.go:116
  refine EC.region (fun i => [1, 1].getD i 0) [0, 1] rfl ?_
  refine ER.sil rfl rfl rfl rfl (Sil.assign rfl) ?_  -- 0.0: t10 := assign
  refine ER.sil rfl rfl rfl rfl (Sil.assign rfl) ?_  -- 0.1: t11 := assign
  refine ER.nil (fun w1 h1 => ?_)
  refine AQ.then ?_
  refine EC.seq ?_
  -- region 1  ref.go:117
  refine EC.region (fun i => [1, 0, 1].getD i 0) [0, 1, 2] rfl ?_
  refine ER.sil rfl rfl rfl rfl (Sil.move rfl) ?_  -- 1.0: t15 := move
  refine ER.ex rfl rfl rfl rfl (Exa.call fok17 rfl rfl (fun wx hx => (refRight_any l v wx (hl.ext (h1.trans hx))))) ?_  -- 1.1: t16 := call
  refine ER.sil rfl rfl rfl rfl (Sil.assign rfl) ?_  -- 1.2: t12 := assign
  refine ER.nil (fun w2 h2 => ?_)
  refine AQ.then ?_
  refine EC.seq ?_
  refine EC.seq ?_
  -- region 2  ref.go:118
  refine EC.region (fun i => [1, 1, 1, 1, 1, 1, 1, 1, 1, 1, 1, 1, 1, 1, 1, 1, 1, 1, 1, 1, 1, 1].getD i 0) [0, 1, 2, 3, 4, 5, 6, 7, 8, 9, 10, 11, 12, 13, 14, 15, 16, 17, 18, 19, 20, 21] rfl ?_
  refine ER.sil rfl rfl rfl rfl (Sil.move rfl) ?_  -- 2.0: t17 := move
  refine ER.sil rfl rfl rfl rfl (Sil.not rfl) ?_  -- 2.1: t18 := unOp
  refine ER.sil rfl rfl rfl rfl (Sil.move rfl) ?_  -- 2.2: t19 := move
  refine ER.silG rfl rfl rfl rfl rfl rfl (fun hc => Sil.move rfl) ?_  -- 2.3: t20 := move
  refine ER.silG rfl rfl rfl rfl rfl rfl (fun hc => Sil.lss (congrArg some (sel_eq hc _)) rfl) ?_  -- 2.4: t21 := binOp
  refine ER.sil rfl rfl rfl rfl (Sil.pickOr rfl rfl rfl) ?_  -- 2.5: t22 := pick
  refine ER.sil rfl rfl rfl rfl (Sil.move rfl) ?_  -- 2.6: t23 := move
  refine ER.silG rfl rfl rfl rfl rfl rfl (fun hc => Sil.move rfl) ?_  -- 2.7: t24 := move
  refine ER.silG rfl rfl rfl rfl rfl rfl (fun hc => Sil.gtr (congrArg some (sel_eq hc _)) rfl) ?_  -- 2.8: t25 := binOp
  refine ER.sil rfl rfl rfl rfl (Sil.pickOr rfl rfl rfl) ?_  -- 2.9: t26 := pick
  refine ER.sil rfl rfl rfl rfl (Sil.move rfl) ?_  -- 2.10: t27 := move
  refine ER.silG rfl rfl rfl rfl rfl rfl (fun hc => Sil.move rfl) ?_  -- 2.11: t28 := move
  refine ER.silG rfl rfl rfl rfl rfl rfl (fun hc => Sil.lss (congrArg some (sel_eq hc _)) rfl) ?_  -- 2.12: t29 := binOp
  refine ER.sil rfl rfl rfl rfl (Sil.pickOr rfl rfl rfl) ?_  -- 2.13: t30 := pick
  refine ER.sil rfl rfl rfl rfl (Sil.move rfl) ?_  -- 2.14: t31 := move
  refine ER.silG rfl rfl rfl rfl rfl rfl (fun hc => Sil.move rfl) ?_  -- 2.15: t32 := move
  refine ER.silG rfl rfl rfl rfl rfl rfl (fun hc => Sil.gtr (congrArg some (sel_eq hc _)) rfl) ?_  -- 2.16: t33 := binOp
  refine ER.sil rfl rfl rfl rfl (Sil.pickOr rfl rfl rfl) ?_  -- 2.17: t34 := pick
  refine ER.sil rfl rfl rfl rfl (Sil.move rfl) ?_  -- 2.18: t35 := move
  refine ER.silG rfl rfl rfl rfl rfl rfl (fun hc => Sil.move rfl) ?_  -- 2.19: t36 := move
  refine ER.silG rfl rfl rfl rfl rfl rfl (fun hc => Sil.gtr (congrArg some (sel_eq hc _)) rfl) ?_  -- 2.20: t37 := binOp
  refine ER.sil rfl rfl rfl rfl (Sil.pickOr rfl rfl rfl) ?_  -- 2.21: t38 := pick
  refine ER.nil (fun w3 h3 => ?_)
  refine AQ.then ?_
  refine EC.cond rfl (fun hb0 => ?_) (fun hb0 => ?_)  -- cond 0: t38
  ·
    have hb0 : fitBad l size align from_ = true := hb0
    refine EC.seq ?_
    -- region 3  ref.go:119
    refine EC.region (fun i => [1, 1].getD i 0) [0, 1] rfl ?_
    refine ER.sil rfl rfl rfl rfl (Sil.assign rfl) ?_  -- 3.0: t10 := assign
    refine ER.sil rfl rfl rfl rfl (Sil.assign rfl) ?_  -- 3.1: t11 := assign
    refine ER.nil (fun w4 h4 => ?_)
    refine AQ.then ?_
    refine EC.ret ?_
    refine AQ.thenRet ?_
    refine AQ.ret2 Try.results10 rfl rfl ?_
    exact ⟨by rw [refFitB, if_pos hb0], (((h1.trans h2).trans h3).trans h4)⟩
  ·
    have hb0 : fitBad l size align from_ = false := hb0
    have hfb : refFitB l size align from_ until_ = refFitGo size align from_ until_ l := by rw [refFitB, if_neg (by rw [hb0]; exact Bool.false_ne_true)]
    have hal : align ≠ 0 := by intro e; rw [e] at hb0; simp [fitBad] at hb0
    refine EC.skip ?_
    refine AQ.then ?_
    refine EC.seq ?_
    refine EC.seq ?_
    -- region 4  ref.go:121
    refine EC.region (fun i => [1].getD i 0) [0] rfl ?_
    refine ER.sil rfl rfl rfl rfl (Sil.assign rfl) ?_  -- 4.0: t13 := assign
    refine ER.nil (fun w5 h5 => ?_)
    refine AQ.then ?_
    refine EC.block ?_
    refine EC.loop (σ := Nat) (fun k => [(0, v), (1, .int .i64 size), (2, .int .i64 align), (3, .int .i64 from_), (4, .int .i64 until_), (13, .int .i64 (k : Int))]) (fun k wr => Ext w wr ∧ k ≤ l.length ∧ refFitGo size align from_ until_ (l.drop k) = refFitGo size align from_ until_ l) (fun k => l.length - k) 0 [0, 1, 2, 3, 4, 13] rfl ?_ (fun k wr hF => ?_)
    · exact ⟨(((h1.trans h2).trans h3).trans h5), Nat.zero_le _, rfl⟩
    obtain ⟨hE, hk, hok⟩ := hF
    refine EC.seq ?_
    refine EC.seq ?_
    -- region 5  ref.go:121
    refine EC.region (fun i => [1, 1, 1, 1].getD i 0) [0, 1, 2, 3] rfl ?_
    refine ER.sil rfl rfl rfl rfl (Sil.move rfl) ?_  -- 5.0: t39 := move
    refine ER.sil rfl rfl rfl rfl (Sil.move rfl) ?_  -- 5.1: t40 := move
    refine ER.sil rfl rfl rfl rfl (Sil.lenR Try.underlying22 rfl (Reads.isS hl)) ?_  -- 5.2: t41 := call
    refine ER.sil rfl rfl rfl rfl (Sil.lss rfl rfl) ?_  -- 5.3: t42 := binOp
    refine ER.nil (fun w6 h6 => ?_)
    refine AQ.then ?_
    refine EC.cond rfl (fun hb1 => ?_) (fun hb1 => ?_)  -- cond 1: t42
    ·
      have hlt : k < l.length := by simpa using hb1
      rw [drop_gt hlt, refFitGo] at hok
      refine EC.skip ?_
      refine AQ.then ?_
      refine EC.seq ?_
      refine EC.block ?_
      refine EC.seq ?_
      -- region 7  ref.go:122
      refine EC.region (fun i => [1, 1, 1, 1, 0, 1, 1, 1].getD i 0) [0, 1, 2, 3, 4, 5, 6, 7] rfl ?_
      refine ER.sil rfl rfl rfl rfl (Sil.move rfl) ?_  -- 7.0: t45 := move
      refine ER.sil rfl rfl rfl rfl (Sil.move rfl) ?_  -- 7.1: t46 := move
      refine ER.sil rfl rfl rfl rfl (Sil.indexR Try.underlying22 inf24 rfl rfl (Reads.isE (hl.ext (hE.trans h6)) (by omega)) (by omega) (by omega)) ?_  -- 7.2: t47 := indexAddr
      refine ER.sil rfl rfl rfl rfl (Sil.fieldAddr Try.underlying24 rfl inf3 rfl) ?_  -- 7.3: t48 := fieldAddr
      refine ER.ex rfl rfl rfl rfl (Exa.load flat3 rfl ((Spans.elem (hl.ext (hE.trans h6)) hlt) 0 _ rfl)) ?_  -- 7.4: t49 := load
      refine ER.sil rfl rfl rfl rfl (Sil.move rfl) ?_  -- 7.5: t50 := move
      refine ER.sil rfl rfl rfl rfl (Sil.max rfl rfl) ?_  -- 7.6: t51 := call
      refine ER.sil rfl rfl rfl rfl (Sil.assign rfl) ?_  -- 7.7: t14 := assign
      refine ER.nil (fun w7 h7 => ?_)
      refine AQ.then ?_
      refine EC.join (σ := Unit) (fun _u => [(0, v), (1, .int .i64 size), (2, .int .i64 align), (3, .int .i64 from_), (4, .int .i64 until_), (13, .int .i64 (k : Int)), (14, .int .i64 (refA (gt l k) align from_))]) (fun _u wr => Ext w wr ∧ True) ?_ (fun _u wr hF => ?_)
      ·
        refine EC.seq ?_
        -- region 8  ref.go:123
        refine EC.region (fun i => [1, 1, 1, 1].getD i 0) [0, 1, 2, 3] rfl ?_
        refine ER.sil rfl rfl rfl rfl (Sil.move rfl) ?_  -- 8.0: t52 := move
        refine ER.sil rfl rfl rfl rfl (Sil.move rfl) ?_  -- 8.1: t53 := move
        refine ER.sil rfl rfl rfl rfl (Sil.rem rfl rfl (hal)) ?_  -- 8.2: t54 := binOp
        refine ER.sil rfl rfl rfl rfl (Sil.neq rfl rfl) ?_  -- 8.3: t55 := binOp
        refine ER.nil (fun w8 h8 => ?_)
        refine AQ.then ?_
        refine EC.cond rfl (fun hb2 => ?_) (fun hb2 => ?_)  -- cond 2: t55
        ·
          have hb2 : ((max (gt l k).1 from_).tmod align != 0) = true := hb2
          -- region 9  ref.go:124
          refine EC.region (fun i => [1, 1, 1, 1, 1, 1, 1, 1].getD i 0) [0, 1, 2, 3, 4, 5, 6, 7] rfl ?_
          refine ER.sil rfl rfl rfl rfl (Sil.move rfl) ?_  -- 9.0: t56 := move
          refine ER.sil rfl rfl rfl rfl (Sil.move rfl) ?_  -- 9.1: t57 := move
          refine ER.sil rfl rfl rfl rfl (Sil.move rfl) ?_  -- 9.2: t58 := move
          refine ER.sil rfl rfl rfl rfl (Sil.rem rfl rfl (hal)) ?_  -- 9.3: t59 := binOp
          refine ER.sil rfl rfl rfl rfl (Sil.sub rfl rfl) ?_  -- 9.4: t60 := binOp
          refine ER.sil rfl rfl rfl rfl (Sil.move rfl) ?_  -- 9.5: t61 := move
          refine ER.sil rfl rfl rfl rfl (Sil.add rfl rfl) ?_  -- 9.6: t62 := binOp
          refine ER.sil rfl rfl rfl rfl (Sil.assign rfl) ?_  -- 9.7: t14 := assign
          refine ER.nil (fun w9 h9 => ?_)
          refine AQ.join () [0, 1, 2, 3, 4, 13, 14] (by rw [refA, if_pos hb2]; rfl) ⟨((((hE.trans h6).trans h7).trans h8).trans h9), trivial⟩
        ·
          have hb2 : ((max (gt l k).1 from_).tmod align != 0) = false := hb2
          refine EC.skip ?_
          refine AQ.join () [0, 1, 2, 3, 4, 13, 14] (by rw [refA, if_neg (by rw [hb2]; exact Bool.false_ne_true)]; rfl) ⟨(((hE.trans h6).trans h7).trans h8), trivial⟩
      obtain ⟨hE, _⟩ := hF
      refine EC.seq ?_
      -- region 10  ref.go:126
      refine EC.draw (fun i => [1, 1, 1, 1, 1, 1, 1, 0, 1, 1, 1, 1, 0, 1, 1, 1, 1, 1, 1, 1, 1, 1].getD i 0) [0, 1, 2, 3, 4, 5, 6, 7, 8, 9, 10, 11, 12, 13, 14, 15, 16, 17, 18, 19, 20, 21] (by kernel_rfl) (by kernel_rfl) ?_
      refine ER.sil rfl rfl rfl rfl (Sil.move rfl) ?_  -- 10.0: t63 := move
      refine ER.sil rfl rfl rfl rfl (Sil.move rfl) ?_  -- 10.1: t64 := move
      refine ER.sil rfl rfl rfl rfl (Sil.add rfl rfl) ?_  -- 10.2: t65 := binOp
      refine ER.sil rfl rfl rfl rfl (Sil.move rfl) ?_  -- 10.3: t66 := move
      refine ER.sil rfl rfl rfl rfl (Sil.move rfl) ?_  -- 10.4: t67 := move
      refine ER.sil rfl rfl rfl rfl (Sil.indexR Try.underlying22 inf24 rfl rfl (Reads.isE (hl.ext hE) (by omega)) (by omega) (by omega)) ?_  -- 10.5: t68 := indexAddr
      refine ER.sil rfl rfl rfl rfl (Sil.fieldAddr Try.underlying24 rfl inf3 rfl) ?_  -- 10.6: t69 := fieldAddr
      refine ER.ex rfl rfl rfl rfl (Exa.load flat3 rfl ((Spans.elem (hl.ext hE) hlt) 0 _ rfl)) ?_  -- 10.7: t70 := load
      refine ER.sil rfl rfl rfl rfl (Sil.move rfl) ?_  -- 10.8: t71 := move
      refine ER.sil rfl rfl rfl rfl (Sil.move rfl) ?_  -- 10.9: t72 := move
      refine ER.sil rfl rfl rfl rfl (Sil.indexR Try.underlying22 inf24 rfl rfl (Reads.isE (hl.ext hE) (by omega)) (by omega) (by omega)) ?_  -- 10.10: t73 := indexAddr
      refine ER.sil rfl rfl rfl rfl (Sil.fieldAddr Try.underlying24 rfl inf3 rfl) ?_  -- 10.11: t74 := fieldAddr
      refine ER.ex rfl rfl rfl rfl (Exa.load flat3 rfl ((Spans.elem (hl.ext hE) hlt) 1 _ rfl)) ?_  -- 10.12: t75 := load
      refine ER.sil rfl rfl rfl rfl (Sil.add rfl rfl) ?_  -- 10.13: t76 := binOp
      refine ER.sil rfl rfl rfl rfl (Sil.leq rfl rfl) ?_  -- 10.14: t77 := binOp
      refine ER.sil rfl rfl rfl rfl (Sil.move rfl) ?_  -- 10.15: t78 := move
      refine ER.silG rfl rfl rfl rfl rfl rfl (fun hc => Sil.move rfl) ?_  -- 10.16: t79 := move
      refine ER.silG rfl rfl rfl rfl rfl rfl (fun hc => Sil.move rfl) ?_  -- 10.17: t80 := move
      refine ER.silG rfl rfl rfl rfl rfl rfl (fun hc => Sil.add (congrArg some (sel_eq hc _)) (congrArg some (sel_eq hc _))) ?_  -- 10.18: t81 := binOp
      refine ER.silG rfl rfl rfl rfl rfl rfl (fun hc => Sil.move rfl) ?_  -- 10.19: t82 := move
      refine ER.silG rfl rfl rfl rfl rfl rfl (fun hc => Sil.leq (congrArg some (sel_eq hc _)) (congrArg some (sel_eq hc _))) ?_  -- 10.20: t83 := binOp
      refine ER.sil rfl rfl rfl rfl (Sil.pickAnd rfl rfl rfl) ?_  -- 10.21: t84 := pick
      refine ER.nil (fun w10 h10 => ?_)
      refine AQ.then ?_
      refine EC.cond rfl (fun hb3 => ?_) (fun hb3 => ?_)  -- cond 3: t84
      ·
        rw [if_pos (show (decide (RoomLaw.w64 (refA (gt l k) align from_ + size) ≤ endS (gt l k)) && decide (RoomLaw.w64 (refA (gt l k) align from_ + size) ≤ until_)) = true from hb3)] at hok
        refine EC.seq ?_
        -- region 11  ref.go:127
        refine EC.region (fun i => [1, 1, 1].getD i 0) [0, 1, 2] rfl ?_
        refine ER.sil rfl rfl rfl rfl (Sil.move rfl) ?_  -- 11.0: t85 := move
        refine ER.sil rfl rfl rfl rfl (Sil.assign rfl) ?_  -- 11.1: t10 := assign
        refine ER.sil rfl rfl rfl rfl (Sil.assign rfl) ?_  -- 11.2: t11 := assign
        refine ER.nil (fun w11 h11 => ?_)
        refine AQ.then ?_
        refine EC.ret ?_
        refine AQ.blockRet ?_
        refine AQ.thenRet ?_
        refine AQ.thenRet ?_
        refine AQ.blockRet ?_
        refine AQ.thenRet ?_
        refine AQ.ret2 Try.results10 rfl rfl ?_
        exact ⟨by rw [hfb, ← hok], ((hE.trans h10).trans h11)⟩
      ·
        rw [if_neg (by rw [show (decide (RoomLaw.w64 (refA (gt l k) align from_ + size) ≤ endS (gt l k)) && decide (RoomLaw.w64 (refA (gt l k) align from_ + size) ≤ until_)) = false from hb3]; exact Bool.false_ne_true)] at hok
        refine EC.skip ?_
        refine AQ.blockNormal ?_
        refine AQ.then ?_
        -- region 6  ref.go:121
        refine EC.region (fun i => [1, 1, 1].getD i 0) [0, 1, 2] rfl ?_
        refine ER.sil rfl rfl rfl rfl (Sil.move rfl) ?_  -- 6.0: t43 := move
        refine ER.sil rfl rfl rfl rfl (Sil.add rfl rfl) ?_  -- 6.1: t44 := binOp
        refine ER.sil rfl rfl rfl rfl (Sil.assign rfl) ?_  -- 6.2: t13 := assign
        refine ER.nil (fun w12 h12 => ?_)
        refine AQ.round (k + 1) [0, 1, 2, 3, 4, 13] (by rw [← wrap_succ hlt hm]; rfl) ⟨((hE.trans h10).trans h12), hlt, hok⟩ (by omega)
    ·
      refine EC.exit ?_
      refine AQ.thenExit ?_
      refine AQ.thenExit ?_
      refine AQ.blockHit ?_
      refine AQ.then ?_
      refine EC.seq ?_
      -- region 12  ref.go:130
      refine EC.region (fun i => [1, 1].getD i 0) [0, 1] rfl ?_
      refine ER.sil rfl rfl rfl rfl (Sil.assign rfl) ?_  -- 12.0: t10 := assign
      refine ER.sil rfl rfl rfl rfl (Sil.assign rfl) ?_  -- 12.1: t11 := assign
      refine ER.nil (fun w13 h13 => ?_)
      refine AQ.then ?_
      refine EC.ret ?_
      refine AQ.ret2 Try.results10 rfl rfl ?_
      have hge : k = l.length := by have : ¬ ((k : Int) < l.length) := (by simpa using hb1); omega
      subst hge
      exact ⟨by rw [hfb, ← hok]; simp [refFitGo], ((hE.trans h6).trans h13)⟩

end Go.Proofs.Ytnnmeipmkfbpdaa
