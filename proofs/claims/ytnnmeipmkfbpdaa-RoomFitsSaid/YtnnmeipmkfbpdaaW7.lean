/- Room: Cut. -/
import Derived.Test.YtnnmeipmkfbpdaaW6
namespace Go.Proofs.Ytnnmeipmkfbpdaa
open Go.RowKit Go.XK Go.RoomLaw

-- linchpin/room.Cut$1: parameters ['int', 'int'] (free 1), results [], 16 slots
theorem cutC_any (a c : Int) (b base : Nat) (vo : Value) (out : List Sp) (w : World) (hb : Row w b 22 [vo]) (ho : w.ownsRow base 24 2 vo out.length (spCs out)) (hbb : b < base) (hbase : base ≤ w.heap.size) (hn : out.length ≤ 2000) :
    Calls Try.prog 31 [.int .i64 a, .int .i64 c, .pointer (some ⟨b, 0, none⟩)].toArray w fun e w' => ∃ vo', e = .returned (.tuple #[]) ∧ Row w' b 22 [vo'] ∧ w'.ownsRow base 24 2 vo' (out ++ keepS a c).length (spCs (out ++ keepS a c)) ∧ Mod (fun k => k = b ∨ some k = vo.ownBlock) w w' := by
  refine calls_of Try.func31 rfl Try.ntmps31 rfl ?_
  refine EC.seq ?_
  -- region 0  room.go:56
  refine EC.region (fun i => [1, 1, 1].getD i 0) [0, 1, 2] rfl ?_
  refine ER.sil rfl rfl rfl rfl (Sil.move rfl) ?_  -- 0.0: t5 := move
  refine ER.sil rfl rfl rfl rfl (Sil.move rfl) ?_  -- 0.1: t6 := move
  refine ER.sil rfl rfl rfl rfl (Sil.lss rfl rfl) ?_  -- 0.2: t7 := binOp
  refine ER.nil (fun w1 h1 => ?_)
  refine AQ.then ?_
  refine EC.cond rfl (fun hb0 => ?_) (fun hb0 => ?_)  -- cond 0: t7
  ·
    have hkp : keepS a c = [(a, w64 (c - a))] := by rw [keepS, if_pos (of_decide_eq_true hb0)]
    -- region 1  room.go:57
    refine EC.region (fun i => [0, 1, 1, 1, 1, 1, 2, 3, 3].getD i 0) [0, 1, 2, 3, 4, 5, 6, 7, 8] rfl ?_
    refine ER.ex rfl rfl rfl rfl (Exa.load flat22 rfl ((hb.ext h1).cell rfl)) ?_  -- 1.0: t8 := load
    refine ER.sil rfl rfl rfl rfl (Sil.move rfl) ?_  -- 1.1: t9 := move
    refine ER.sil rfl rfl rfl rfl (Sil.move rfl) ?_  -- 1.2: t10 := move
    refine ER.sil rfl rfl rfl rfl (Sil.move rfl) ?_  -- 1.3: t11 := move
    refine ER.sil rfl rfl rfl rfl (Sil.sub rfl rfl) ?_  -- 1.4: t12 := binOp
    refine ER.sil rfl rfl rfl rfl (Sil.build rfl rfl) ?_  -- 1.5: t13 := build
    refine ER.st rfl rfl rfl rfl (fun w2 h2 => Stp.buildAll [_] Try.underlying22 inf24 rfl rfl rfl rfl rfl rfl (fun w3 h3 s3 r3 => ⟨h3, ?_⟩))  -- 1.6: t14 := buildSlice
    refine ER.bar rfl rfl rfl rfl (fun w4 h4 => ?_)  -- 1.7: t15 := call
    have o4 := (Ext.own ho (((h1.trans h2).trans h3).trans h4))
    refine Stp.append Try.underlying22 inf24 rfl (by decide) rfl rfl o4 (Nat.le_trans hbase (((h1.trans h2).trans h3).trans h4).size) (Reads.of_row (r3.ext h4) rfl (by decide)) (spC_one (a, _)) (by first | omega | (simp only [List.length_append, List.length_cons, List.length_nil]; omega)) (by unfold maxLen; first | omega | (simp only [List.length_append, List.length_cons, List.length_nil]; omega)) (fun v5 w5 o5 g5 n5 => ?_)
    have mA : Mod (fun k => k = b ∨ some k = vo.ownBlock) w w5 := (Ext.mod (((h1.trans h2).trans h3).trans h4) _).trans (Mod.of_grown g5 (fun k hk => Or.inr hk.symm))
    have x5_2 := (hb.ext (((h1.trans h2).trans h3).trans h4)).grown g5 (own_ne o4 hbb)
    have z5 : w5.ownsRow base 24 2 v5 (out ++ keepS a c).length (spCs (out ++ keepS a c)) := by rw [hkp, List.length_append, spCs_append]; exact o5
    obtain ⟨pA, cA, rfl⟩ := own_slice z5
    refine ER.bar rfl rfl rfl rfl (fun w6 h6 => Stp.store (by kernel_rfl) rfl rfl (x5_2.ext h6) rfl rfl (fun w7 u7 r7 => ?_))  -- 1.8: tNone := store
    have mB := (mA.trans (Ext.mod h6 _)).trans (u7.mod (Or.inl rfl))
    have y7_out := u7.own (Ext.own z5 h6) hbb
    refine ER.nil (fun w8 h8 => ?_)
    refine AQ.ret0 Try.results31 ?_
    exact ⟨_, rfl, (r7.ext h8), (Ext.own y7_out h8), mB.trans (Ext.mod h8 _)⟩
  ·
    have hkp : keepS a c = [] := by rw [keepS, if_neg (of_decide_eq_false hb0)]
    refine EC.skip ?_
    refine AQ.ret0 Try.results31 ?_
    exact ⟨vo, rfl, (hb.ext h1), by rw [hkp, List.append_nil]; exact (Ext.own ho h1), Ext.mod h1 _⟩

structure CutS where
  k : Nat
  out : List Sp
  v : Value

-- linchpin/room.Cut: parameters ['[]api.Span', 'api.Span'] (free 0), results [('ResultVar.tmp', 4)], 51 slots
theorem cut_any (l : List Sp) (v : Value) (s : Sp) (w : World) (hl : Spans w v l) (hn : l.length ≤ 400) :
    Calls Try.prog 14 [v, spV s].toArray w fun e w' => ∃ v', e = .returned v' ∧ Ext w w' ∧ w'.ownsRow w.heap.size 24 2 v' (cutB l s).length (spCs (cutB l s)) := by
  obtain ⟨b0, c0, rfl, hm⟩ := Spans.len hl
  refine calls_of Try.func14 rfl Try.ntmps14 rfl ?_
  refine EC.seq ?_
  -- region 0  room.go:50
  refine EC.region (fun i => [2, 1].getD i 0) [0, 1] rfl ?_
  refine ER.st rfl rfl rfl rfl (fun w1 h1 => Stp.box rfl (fun w2 h2 s2 r2 => ⟨h2, ?_⟩))  -- 0.0: t3 := box
  refine ER.sil rfl rfl rfl rfl (Sil.assign rfl) ?_  -- 0.1: t4 := assign
  refine ER.nil (fun w3 h3 => ?_)
  refine AQ.then ?_
  refine EC.seq ?_
  refine EC.seq ?_
  -- region 1  room.go:51
  refine EC.region (fun i => [1, 0, 1, 1, 0, 0, 1, 1, 1, 1, 0, 1, 1].getD i 0) [0, 1, 2, 3, 4, 5, 6, 7, 8, 9, 10, 11, 12] rfl ?_
  refine ER.sil rfl rfl rfl rfl (Sil.move rfl) ?_  -- 1.0: t9 := move
  refine ER.ex rfl rfl rfl rfl (Exa.call fok16 rfl rfl (fun wx hx => (right_any l _ wx (hl.ext (((h1.trans h2).trans h3).trans hx))))) ?_  -- 1.1: t10 := call
  refine ER.sil rfl rfl rfl rfl (Sil.not rfl) ?_  -- 1.2: t11 := unOp
  refine ER.sil rfl rfl rfl rfl (Sil.move rfl) ?_  -- 1.3: t12 := move
  refine ER.exG rfl rfl rfl rfl rfl rfl (fun hc => Exa.loadAgg (vs := spC s) agg24 rfl ((r2.ext h3).at)) ?_  -- 1.4: t13 := load
  refine ER.exG rfl rfl rfl rfl rfl rfl (fun hc => Exa.call fok27 rfl (evs_cons (congrArg some (sel_eq hc _)) evs_nil) (fun wx hx => (valid_any s wx))) ?_  -- 1.5: t14 := call
  refine ER.silG rfl rfl rfl rfl rfl rfl (fun hc => Sil.not (congrArg some (sel_eq hc _))) ?_  -- 1.6: t15 := unOp
  refine ER.sil rfl rfl rfl rfl (Sil.pickOr rfl rfl rfl) ?_  -- 1.7: t16 := pick
  refine ER.sil rfl rfl rfl rfl (Sil.move rfl) ?_  -- 1.8: t17 := move
  refine ER.silG rfl rfl rfl rfl rfl rfl (fun hc => Sil.fieldAddr Try.underlying24 rfl inf3 rfl) ?_  -- 1.9: t18 := fieldAddr
  refine ER.exG rfl rfl rfl rfl rfl rfl (fun hc => Exa.load flat3 (congrArg some (sel_eq hc _)) ((r2.ext h3).cell rfl)) ?_  -- 1.10: t19 := load
  refine ER.silG rfl rfl rfl rfl rfl rfl (fun hc => Sil.eql (congrArg some (sel_eq hc _)) rfl) ?_  -- 1.11: t20 := binOp
  refine ER.sil rfl rfl rfl rfl (Sil.pickOr rfl rfl rfl) ?_  -- 1.12: t21 := pick
  refine ER.nil (fun w4 h4 => ?_)
  refine AQ.then ?_
  refine EC.cond rfl (fun hb0 => ?_) (fun hb0 => ?_)  -- cond 0: t21
  ·
    have hcut : cutB l s = l := by rw [cutB, if_pos hb0]
    refine EC.seq ?_
    -- region 2  room.go:52
    refine EC.region (fun i => [1, 2, 1].getD i 0) [0, 1, 2] rfl ?_
    refine ER.sil rfl rfl rfl rfl (Sil.move rfl) ?_  -- 2.0: t22 := move
    refine ER.st rfl rfl rfl rfl (fun w5 h5 => Stp.call fok28 rfl rfl (Calls.mono ((clone_any l _ w5 (hl.ext ((((h1.trans h2).trans h3).trans h4).trans h5)) (by omega))) ?_))  -- 2.1: t23 := call
    rintro _ w6 ⟨v6, rfl, h6, out6⟩
    refine ⟨v6, rfl, h6, ?_⟩
    have hq0 := Nat.le_trans (((h1.trans h2).trans h3).trans h4).size h5.size
    refine ER.sil rfl rfl rfl rfl (Sil.assign rfl) ?_  -- 2.2: t4 := assign
    refine ER.nil (fun w7 h7 => ?_)
    refine AQ.then ?_
    refine EC.ret ?_
    refine AQ.thenRet ?_
    refine AQ.ret1 Try.results14 rfl ?_
    exact ⟨_, rfl, ((((((h1.trans h2).trans h3).trans h4).trans h5).trans h6).trans h7), by rw [hcut]; exact own_base (Ext.own out6 h7) hq0⟩
  ·
    have hcut : cutB l s = cutGo s l := by rw [cutB, if_neg (by rw [hb0]; exact Bool.false_ne_true)]
    refine EC.skip ?_
    refine AQ.then ?_
    refine EC.seq ?_
    -- region 3  room.go:54
    refine EC.region (fun i => [2].getD i 0) [0] rfl ?_
    refine ER.st rfl rfl rfl rfl (fun w8 h8 => Stp.alloc inf22 (fun w9 h9 s9 r9 => ⟨h9, ?_⟩))  -- 3.0: t5 := alloc
    have hB3 : w1.heap.size < w8.heap.size := Nat.lt_of_lt_of_le (show w1.heap.size < w2.heap.size by omega) ((h3.trans h4).trans h8).size
    have hB5 : w.heap.size ≤ w8.heap.size := Nat.le_trans (((h1.trans h2).trans h3).trans h4).size h8.size
    refine ER.nil (fun w10 h10 => ?_)
    refine AQ.then ?_
    refine EC.seq ?_
    -- region 4  room.go:55
    refine EC.region (fun i => [1, 1].getD i 0) [0, 1] rfl ?_
    refine ER.sil rfl rfl rfl rfl (Sil.makeFunc rfl rfl) ?_  -- 4.0: t24 := makeFunc
    refine ER.sil rfl rfl rfl rfl (Sil.assign rfl) ?_  -- 4.1: t6 := assign
    refine ER.nil (fun w11 h11 => ?_)
    refine AQ.then ?_
    refine EC.seq ?_
    refine EC.seq ?_
    -- region 5  room.go:60
    refine EC.region (fun i => [1, 1, 1].getD i 0) [0, 1, 2] rfl ?_
    refine ER.sil rfl rfl rfl rfl (Sil.move rfl) ?_  -- 5.0: t25 := move
    refine ER.sil rfl rfl rfl rfl (Sil.len Try.underlying22 rfl) ?_  -- 5.1: t26 := call
    refine ER.sil rfl rfl rfl rfl (Sil.move rfl) ?_  -- 5.2: t27 := move
    refine ER.nil (fun w12 h12 => ?_)
    refine AQ.then ?_
    refine EC.block ?_
    refine EC.loop (σ := CutS) (fun q => [(0, .slice b0 l.length c0), (3, .pointer (some ⟨w1.heap.size, 0, none⟩)), (5, .pointer (some ⟨w8.heap.size, 0, none⟩)), (6, .func (.func 31) #[] #[.pointer (some ⟨w8.heap.size, 0, none⟩)]), (25, .slice b0 l.length c0), (26, .int .i64 (l.length : Int)), (27, .int .i64 (q.k : Int))]) (fun q wr => Ext w wr ∧ q.k ≤ l.length ∧ Row wr w1.heap.size 24 (spC s) ∧ Row wr w8.heap.size 22 [q.v] ∧ wr.ownsRow (w8.heap.size + 1) 24 2 q.v q.out.length (spCs q.out) ∧ q.out ++ cutGo s (l.drop q.k) = cutGo s l ∧ q.out.length ≤ 2 * q.k) (fun q => l.length - q.k) ⟨0, [], .slice none 0 0⟩ [0, 3, 5, 6, 25, 26, 27] rfl ?_ (fun q wr hF => ?_)
    · exact ⟨((((((((h1.trans h2).trans h3).trans h4).trans h8).trans h9).trans h10).trans h11).trans h12), Nat.zero_le _, (r2.ext ((((((h3.trans h4).trans h8).trans h9).trans h10).trans h11).trans h12)), (r9.ext ((h10.trans h11).trans h12)), World.ownsRow_nil _ _ _ _, rfl, Nat.le_refl _⟩
    obtain ⟨hE, hk, q3, q5, out, hgo, hol⟩ := hF
    refine EC.seq ?_
    -- region 6  room.go:60
    refine EC.region (fun i => [1].getD i 0) [0] rfl ?_
    refine ER.sil rfl rfl rfl rfl (Sil.lss rfl rfl) ?_  -- 6.0: t28 := binOp
    refine ER.nil (fun w13 h13 => ?_)
    refine AQ.then ?_
    refine EC.seq ?_
    refine EC.cond rfl (fun hb1 => ?_) (fun hb1 => ?_)  -- cond 1: t28
    ·
      have hlt : q.k < l.length := by simpa using hb1
      obtain ⟨b, o, rfl, hat⟩ := Spans.has (hl.ext (hE.trans h13)) hlt
      rw [drop_gt hlt, cutGo, cutOne] at hgo
      refine EC.skip ?_
      refine AQ.then ?_
      refine EC.seq ?_
      refine EC.block ?_
      refine EC.seq ?_
      -- region 7  room.go:60
      refine EC.region (fun i => [1, 0, 2, 3].getD i 0) [0, 1, 2, 3] rfl ?_
      refine ER.sil rfl rfl rfl rfl (Sil.indexAddr Try.underlying22 inf24 rfl rfl (by omega) (by omega)) ?_  -- 7.0: t29 := indexAddr
      refine ER.ex rfl rfl rfl rfl (Exa.loadAgg (vs := spC (gt l q.k)) agg24 rfl (Spans.at hat hlt)) ?_  -- 7.1: t30 := load
      refine ER.st rfl rfl rfl rfl (fun w14 h14 => Stp.alloc inf24 (fun w15 h15 s15 r15 => ⟨h15, ?_⟩))  -- 7.2: t8 := alloc
      refine ER.bar rfl rfl rfl rfl (fun w16 h16 => Stp.store (by kernel_rfl) rfl rfl (r15.ext h16) rfl rfl (fun w17 u17 r17 => ?_))  -- 7.3: tNone := store
      have e17 := ((h14.trans h15).trans h16).upd u17 h14.size
      have h8a : wr.heap.size ≤ w14.heap.size := (h13.trans h14).size
      refine ER.nil (fun w18 h18 => ?_)
      refine AQ.then ?_
      refine EC.seq ?_
      -- region 8  room.go:61
      refine EC.draw (fun i => [1, 1, 0, 0, 0, 1, 0, 1, 3].getD i 0) [0, 1, 2, 3, 4, 5, 6, 7, 8] (by kernel_rfl) (by kernel_rfl) ?_
      refine ER.sil rfl rfl rfl rfl (Sil.move rfl) ?_  -- 8.0: t31 := move
      refine ER.sil rfl rfl rfl rfl (Sil.fieldAddr Try.underlying24 rfl inf3 rfl) ?_  -- 8.1: t32 := fieldAddr
      refine ER.ex rfl rfl rfl rfl (Exa.load flat3 rfl ((r17.ext h18).cell rfl)) ?_  -- 8.2: t33 := load
      refine ER.ex rfl rfl rfl rfl (Exa.loadAgg (vs := spC (gt l q.k)) agg24 rfl ((r17.ext h18).at)) ?_  -- 8.3: t34 := load
      refine ER.ex rfl rfl rfl rfl (Exa.call fok26 rfl rfl (fun wx hx => (end_any (gt l q.k) wx))) ?_  -- 8.4: t35 := call
      refine ER.sil rfl rfl rfl rfl (Sil.fieldAddr Try.underlying24 rfl inf3 rfl) ?_  -- 8.5: t36 := fieldAddr
      refine ER.ex rfl rfl rfl rfl (Exa.load flat3 rfl ((q3.ext ((h13.trans e17).trans h18)).cell rfl)) ?_  -- 8.6: t37 := load
      refine ER.sil rfl rfl rfl rfl (Sil.min rfl rfl) ?_  -- 8.7: t38 := call
      --  -- 8.8: t39 := call
      refine ER.bar rfl rfl rfl rfl (fun w19 h19 => Stp.callC (cs := [.pointer (some ⟨w8.heap.size, 0, none⟩)]) fok31 rfl rfl (Calls.mono (cutC_any _ _ w8.heap.size (w8.heap.size + 1) (q.v) (q.out) w19 ((q5.ext ((h13.trans e17).trans h18)).ext h19) (Ext.own (Ext.own out ((h13.trans e17).trans h18)) h19) (Nat.lt_succ_self _) (Nat.le_trans (Nat.succ_le_of_lt (q5.ext ((h13.trans e17).trans h18)).lt) h19.size) (by first | omega | (have := keepS_length (gt l q.k).1 (min (endS (gt l q.k)) s.1); simp only [List.length_append]; omega))) ?_))
      rintro _ w20 ⟨v20, rfl, r20, o20, m20⟩
      refine ⟨_, rfl, ?_⟩
      have x20_3 := m20.row ((q3.ext ((h13.trans e17).trans h18)).ext h19) (not_or.2 ⟨Nat.ne_of_lt hB3, own_ne (Ext.own out ((h13.trans e17).trans h18)) (Nat.lt_succ_of_lt hB3)⟩)
      have x20_8 := m20.row ((r17.ext h18).ext h19) (not_or.2 ⟨Nat.ne_of_gt (Nat.lt_of_lt_of_le q5.lt h8a), fun e1 => absurd (out.lt _ e1.symm).2 (Nat.not_lt_of_le h8a)⟩)
      have e20 := ((((hE.trans h13).trans e17).trans h18).trans h19).modify m20 (fun k hk => by
        rcases hk with rfl | hk
        · exact hB5
        · exact Nat.le_trans (Nat.le_succ_of_le hB5) ((Ext.own out ((h13.trans e17).trans h18)).lt k hk.symm).1)
      refine ER.nil (fun w21 h21 => ?_)
      refine AQ.then ?_
      -- region 9  room.go:62
      refine EC.draw (fun i => [1, 1, 0, 0, 0, 1, 0, 0, 3].getD i 0) [0, 1, 2, 3, 4, 5, 6, 7, 8] (by kernel_rfl) (by kernel_rfl) ?_
      refine ER.sil rfl rfl rfl rfl (Sil.move rfl) ?_  -- 9.0: t40 := move
      refine ER.sil rfl rfl rfl rfl (Sil.fieldAddr Try.underlying24 rfl inf3 rfl) ?_  -- 9.1: t41 := fieldAddr
      refine ER.ex rfl rfl rfl rfl (Exa.load flat3 rfl ((x20_8.ext h21).cell rfl)) ?_  -- 9.2: t42 := load
      refine ER.ex rfl rfl rfl rfl (Exa.loadAgg (vs := spC s) agg24 rfl ((x20_3.ext h21).at)) ?_  -- 9.3: t43 := load
      refine ER.ex rfl rfl rfl rfl (Exa.call fok26 rfl rfl (fun wx hx => (end_any s wx))) ?_  -- 9.4: t44 := call
      refine ER.sil rfl rfl rfl rfl (Sil.max rfl rfl) ?_  -- 9.5: t45 := call
      refine ER.ex rfl rfl rfl rfl (Exa.loadAgg (vs := spC (gt l q.k)) agg24 rfl ((x20_8.ext h21).at)) ?_  -- 9.6: t46 := load
      refine ER.ex rfl rfl rfl rfl (Exa.call fok26 rfl rfl (fun wx hx => (end_any (gt l q.k) wx))) ?_  -- 9.7: t47 := call
      --  -- 9.8: t48 := call
      refine ER.bar rfl rfl rfl rfl (fun w22 h22 => Stp.callC (cs := [.pointer (some ⟨w8.heap.size, 0, none⟩)]) fok31 rfl rfl (Calls.mono (cutC_any _ _ w8.heap.size (w8.heap.size + 1) (_) (q.out ++ keepS (gt l q.k).1 (min (endS (gt l q.k)) s.1)) w22 ((r20.ext h21).ext h22) (Ext.own (Ext.own o20 h21) h22) (Nat.lt_succ_self _) (Nat.le_trans (Nat.succ_le_of_lt (r20.ext h21).lt) h22.size) (by first | omega | (have := keepS_length (gt l q.k).1 (min (endS (gt l q.k)) s.1); simp only [List.length_append]; omega))) ?_))
      rintro _ w23 ⟨v23, rfl, r23, o23, m23⟩
      refine ⟨_, rfl, ?_⟩
      have x23_3 := m23.row ((x20_3.ext h21).ext h22) (not_or.2 ⟨Nat.ne_of_lt hB3, own_ne (Ext.own o20 h21) (Nat.lt_succ_of_lt hB3)⟩)
      have e23 := ((e20.trans h21).trans h22).modify m23 (fun k hk => by
        rcases hk with rfl | hk
        · exact hB5
        · exact Nat.le_trans (Nat.le_succ_of_le hB5) ((Ext.own o20 h21).lt k hk.symm).1)
      refine ER.nil (fun w24 h24 => ?_)
      refine AQ.blockNormal ?_
      refine AQ.then ?_
      -- region 10  room.go:60
      refine EC.region (fun i => [1, 1].getD i 0) [0, 1] rfl ?_
      refine ER.sil rfl rfl rfl rfl (Sil.add rfl rfl) ?_  -- 10.0: t49 := binOp
      refine ER.sil rfl rfl rfl rfl (Sil.move rfl) ?_  -- 10.1: t27 := move
      refine ER.nil (fun w25 h25 => ?_)
      have hl1 := keepS_length (gt l q.k).1 (min (endS (gt l q.k)) s.1)
      have hl2 := keepS_length (max (gt l q.k).1 (endS s)) (endS (gt l q.k))
      refine AQ.round ⟨q.k + 1, (q.out ++ keepS (gt l q.k).1 (min (endS (gt l q.k)) s.1)) ++ keepS (max (gt l q.k).1 (endS s)) (endS (gt l q.k)), _⟩ [0, 3, 5, 6, 25, 26, 27] (by rw [wrap_succ hlt hm]; rfl) ⟨((e23.trans h24).trans h25), hlt, (x23_3.ext (h24.trans h25)), (r23.ext (h24.trans h25)), (Ext.own o23 (h24.trans h25)), by rw [← hgo]; simp, by simp only [List.length_append]; omega⟩ (by simp only; omega)
    ·
      refine EC.exit ?_
      refine AQ.thenExit ?_
      refine AQ.thenExit ?_
      refine AQ.blockHit ?_
      refine AQ.then ?_
      refine EC.seq ?_
      -- region 11  room.go:64
      refine EC.region (fun i => [0, 1].getD i 0) [0, 1] rfl ?_
      refine ER.ex rfl rfl rfl rfl (Exa.load flat22 rfl ((q5.ext h13).cell rfl)) ?_  -- 11.0: t50 := load
      refine ER.sil rfl rfl rfl rfl (Sil.assign rfl) ?_  -- 11.1: t4 := assign
      refine ER.nil (fun w26 h26 => ?_)
      refine AQ.then ?_
      refine EC.ret ?_
      refine AQ.ret1 Try.results14 rfl ?_
      have hge : q.k = l.length := by have : ¬ ((q.k : Int) < l.length) := (by simpa using hb1); omega
      refine ⟨_, rfl, ((hE.trans h13).trans h26), ?_⟩
      rw [hcut, ← hgo, hge, List.drop_length, cutGo, List.append_nil]
      exact own_base (Ext.own out (h13.trans h26)) (Nat.le_succ_of_le hB5)

end Go.Proofs.Ytnnmeipmkfbpdaa
