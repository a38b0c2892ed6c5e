/- Room: RoomOrders. -/
import Derived.Test.YtnnmeipmkfbpdaaW13
import Derived.Test.YtnnmeipmkfbpdaaPlain
namespace Go.Proofs.Ytnnmeipmkfbpdaa
open Go.RowKit Go.XK Go.RoomLaw

structure OrdS where
  k : Nat
  x : Value
  y : Value
  z : Value

-- linchpin/linchpinlaw04.RoomOrders: parameters ['[]api.Span'] (free 0), results [('ResultVar.tmp', 2)], 88 slots
theorem orders_any (l : List Sp) (v : Value) (w : World) (hl : Spans w v l) :
    Calls Try.prog 6 [v].toArray w fun e w' => e = .returned (.bool (lawOrders l)) ∧ Ext w w' := by
  refine calls_of Try.func6 rfl Try.ntmps6 rfl ?_
  refine EC.seq ?_
  -- region 0  law.go:64
  refine EC.region (fun i => [1].getD i 0) [0] rfl ?_
  refine ER.sil rfl rfl rfl rfl (Sil.assign rfl) ?_  -- 0.0: t2 := assign
  refine ER.nil (fun w1 h1 => ?_)
  refine AQ.then ?_
  refine EC.seq ?_
  -- region 1  law.go:65
  refine EC.region (fun i => [0, 1].getD i 0) [0, 1] rfl ?_
  refine ER.ex rfl rfl rfl rfl (Exa.call fok8 rfl rfl (fun wx hx => (small_any wx))) ?_  -- 1.0: t13 := call
  refine ER.sil rfl rfl rfl rfl (Sil.assign rfl) ?_  -- 1.1: t3 := assign
  refine ER.nil (fun w2 h2 => ?_)
  refine AQ.then ?_
  refine EC.seq ?_
  refine EC.seq ?_
  -- region 2  law.go:66
  refine EC.region (fun i => [1, 1, 1].getD i 0) [0, 1, 2] rfl ?_
  refine ER.sil rfl rfl rfl rfl (Sil.move rfl) ?_  -- 2.0: t14 := move
  refine ER.sil rfl rfl rfl rfl (Sil.lenR Try.underlying22 rfl (Reads.isS hl)) ?_  -- 2.1: t15 := call
  refine ER.sil rfl rfl rfl rfl (Sil.gtr rfl rfl) ?_  -- 2.2: t16 := binOp
  refine ER.nil (fun w3 h3 => ?_)
  refine AQ.then ?_
  refine EC.cond rfl (fun hb0 => ?_) (fun hb0 => ?_)  -- cond 0: t16
  ·
    refine EC.seq ?_
    -- region 3  law.go:67
    refine EC.region (fun i => [1, 1].getD i 0) [0, 1] rfl ?_
    refine ER.sil rfl rfl rfl rfl (Sil.move rfl) ?_  -- 3.0: t17 := move
    refine ER.sil rfl rfl rfl rfl (Sil.assign rfl) ?_  -- 3.1: t2 := assign
    refine ER.nil (fun w4 h4 => ?_)
    refine AQ.then ?_
    refine EC.ret ?_
    refine AQ.thenRet ?_
    refine AQ.ret1 Try.results6 rfl ?_
    exact ⟨ret_b (show true = lawOrders l by rw [lawOrders, hb0]; rfl), (((h1.trans h2).trans h3).trans h4)⟩
  ·
    have hn : l.length ≤ 20 := by have := of_decide_eq_false hb0; omega
    have hmax : l.length ≤ maxLen := Reads.max hl
    have hLX := addOn_length l []
    have hRX := addOn_R l [] trivial
    simp only [List.length_nil] at hLX
    refine EC.skip ?_
    refine AQ.then ?_
    refine EC.seq ?_
    -- region 4  law.go:69
    refine EC.region (fun i => [1].getD i 0) [0] rfl ?_
    refine ER.sil rfl rfl rfl rfl (Sil.assign rfl) ?_  -- 4.0: t4 := assign
    refine ER.nil (fun w5 h5 => ?_)
    refine AQ.then ?_
    refine EC.seq ?_
    -- region 5  law.go:70
    refine EC.region (fun i => [1].getD i 0) [0] rfl ?_
    refine ER.sil rfl rfl rfl rfl (Sil.assign rfl) ?_  -- 5.0: t5 := assign
    refine ER.nil (fun w6 h6 => ?_)
    refine AQ.then ?_
    refine EC.seq ?_
    refine EC.seq ?_
    -- region 6  law.go:71
    refine EC.region (fun i => [1].getD i 0) [0] rfl ?_
    refine ER.sil rfl rfl rfl rfl (Sil.assign rfl) ?_  -- 6.0: t6 := assign
    refine ER.nil (fun w7 h7 => ?_)
    refine AQ.then ?_
    refine EC.block ?_
    refine EC.loop (σ := OrdS) (fun q => [(0, v), (3, .bool true), (4, q.x), (5, q.y), (6, .int .i64 (q.k : Int))]) (fun q wr => Ext w wr ∧ q.k ≤ l.length ∧ wr.ownsRow w.heap.size 24 2 q.x (addOn [] (l.take q.k)).length (spCs (addOn [] (l.take q.k))) ∧ wr.ownsRow w.heap.size 24 2 q.y (addOn [] (l.reverse.take q.k)).length (spCs (addOn [] (l.reverse.take q.k)))) (fun q => l.length - q.k) ⟨0, .slice none 0 0, .slice none 0 0, .slice none 0 0⟩ [0, 3, 4, 5, 6] rfl ?_ (fun q wr hF => ?_)
    · exact ⟨(((((h1.trans h2).trans h3).trans h5).trans h6).trans h7), Nat.zero_le _, World.ownsRow_nil _ _ _ _, World.ownsRow_nil _ _ _ _⟩
    obtain ⟨hE, hk, px, py⟩ := hF
    have hlx := addOn_length (l.take q.k) []
    have hly := addOn_length (l.reverse.take q.k) []
    simp only [List.length_take, List.length_reverse, List.length_nil] at hlx hly
    refine EC.seq ?_
    refine EC.seq ?_
    -- region 7  law.go:71
    refine EC.region (fun i => [1, 1, 1, 1].getD i 0) [0, 1, 2, 3] rfl ?_
    refine ER.sil rfl rfl rfl rfl (Sil.move rfl) ?_  -- 7.0: t18 := move
    refine ER.sil rfl rfl rfl rfl (Sil.move rfl) ?_  -- 7.1: t19 := move
    refine ER.sil rfl rfl rfl rfl (Sil.lenR Try.underlying22 rfl (Reads.isS hl)) ?_  -- 7.2: t20 := call
    refine ER.sil rfl rfl rfl rfl (Sil.lss rfl rfl) ?_  -- 7.3: t21 := binOp
    refine ER.nil (fun w8 h8 => ?_)
    refine AQ.then ?_
    refine EC.cond rfl (fun hb1 => ?_) (fun hb1 => ?_)  -- cond 1: t21
    ·
      have hlt : q.k < l.length := by have := of_decide_eq_true hb1; omega
      have hrev : IntKind.i64.wrap (IntKind.i64.wrap ((l.length : Int) - 1) - (q.k : Int)) = ((l.length - 1 - q.k : Nat) : Int) := by rw [wrap_pred (Nat.le_refl _) hmax (by omega), IntWalk.i64_in _ (by omega)]; omega
      refine EC.skip ?_
      refine AQ.then ?_
      refine EC.seq ?_
      refine EC.block ?_
      refine EC.seq ?_
      -- region 9  law.go:72
      refine EC.region (fun i => [1, 1, 1, 1, 0, 2, 1].getD i 0) [0, 1, 2, 3, 4, 5, 6] rfl ?_
      refine ER.sil rfl rfl rfl rfl (Sil.move rfl) ?_  -- 9.0: t24 := move
      refine ER.sil rfl rfl rfl rfl (Sil.move rfl) ?_  -- 9.1: t25 := move
      refine ER.sil rfl rfl rfl rfl (Sil.move rfl) ?_  -- 9.2: t26 := move
      refine ER.sil rfl rfl rfl rfl (Sil.indexR Try.underlying22 inf24 rfl rfl (Reads.isE (hl.ext (hE.trans h8)) (by omega)) (by omega) (by omega)) ?_  -- 9.3: t27 := indexAddr
      refine ER.ex rfl rfl rfl rfl (Exa.loadAgg (vs := spC (gt l q.k)) agg24 rfl (Spans.elem (hl.ext (hE.trans h8)) hlt)) ?_  -- 9.4: t28 := load
      refine ER.st rfl rfl rfl rfl (fun w9 h9 => Stp.call fok12 rfl rfl (Calls.mono ((add_any (addOn [] (l.take q.k)) q.x (gt l q.k) w9 ((Spans.of_own (Ext.own px h8)).ext h9) (by omega))) ?_))  -- 9.5: t29 := call
      rintro _ w10 ⟨v10, rfl, h10, pn10⟩
      refine ⟨v10, rfl, h10, ?_⟩
      have hqn := Nat.le_trans (hE.trans h8).size h9.size
      refine ER.sil rfl rfl rfl rfl (Sil.assign rfl) ?_  -- 9.6: t4 := assign
      refine ER.nil (fun w11 h11 => ?_)
      refine AQ.then ?_
      -- region 10  law.go:73
      refine EC.region (fun i => [1, 1, 1, 1, 1, 1, 1, 1, 0, 2, 1].getD i 0) [0, 1, 2, 3, 4, 5, 6, 7, 8, 9, 10] rfl ?_
      refine ER.sil rfl rfl rfl rfl (Sil.move rfl) ?_  -- 10.0: t30 := move
      refine ER.sil rfl rfl rfl rfl (Sil.move rfl) ?_  -- 10.1: t31 := move
      refine ER.sil rfl rfl rfl rfl (Sil.move rfl) ?_  -- 10.2: t32 := move
      refine ER.sil rfl rfl rfl rfl (Sil.lenR Try.underlying22 rfl (Reads.isS hl)) ?_  -- 10.3: t33 := call
      refine ER.sil rfl rfl rfl rfl (Sil.sub rfl rfl) ?_  -- 10.4: t34 := binOp
      refine ER.sil rfl rfl rfl rfl (Sil.move rfl) ?_  -- 10.5: t35 := move
      refine ER.sil rfl rfl rfl rfl (Sil.sub rfl rfl) ?_  -- 10.6: t36 := binOp
      refine ER.sil rfl rfl rfl rfl (Sil.indexR Try.underlying22 inf24 rfl rfl (Reads.isE (hl.ext ((((hE.trans h8).trans h9).trans h10).trans h11)) (by omega)) (by rw [hrev]; omega) (by rw [hrev]; omega)) ?_  -- 10.7: t37 := indexAddr
      refine ER.ex rfl rfl rfl rfl (Exa.loadAgg (vs := spC (gt l (l.length - 1 - q.k))) agg24 rfl (by rw [hrev]; exact Spans.elem (hl.ext ((((hE.trans h8).trans h9).trans h10).trans h11)) (by omega))) ?_  -- 10.8: t38 := load
      refine ER.st rfl rfl rfl rfl (fun w12 h12 => Stp.call fok12 rfl rfl (Calls.mono ((add_any (addOn [] (l.reverse.take q.k)) q.y (gt l (l.length - 1 - q.k)) w12 ((Spans.of_own (Ext.own py (((h8.trans h9).trans h10).trans h11))).ext h12) (by omega))) ?_))  -- 10.9: t39 := call
      rintro _ w13 ⟨v13, rfl, h13, pm13⟩
      refine ⟨v13, rfl, h13, ?_⟩
      have hqm := Nat.le_trans ((((hE.trans h8).trans h9).trans h10).trans h11).size h12.size
      refine ER.sil rfl rfl rfl rfl (Sil.assign rfl) ?_  -- 10.10: t5 := assign
      refine ER.nil (fun w14 h14 => ?_)
      refine AQ.blockNormal ?_
      refine AQ.then ?_
      -- region 8  law.go:71
      refine EC.region (fun i => [1, 1, 1].getD i 0) [0, 1, 2] rfl ?_
      refine ER.sil rfl rfl rfl rfl (Sil.move rfl) ?_  -- 8.0: t22 := move
      refine ER.sil rfl rfl rfl rfl (Sil.add rfl rfl) ?_  -- 8.1: t23 := binOp
      refine ER.sil rfl rfl rfl rfl (Sil.assign rfl) ?_  -- 8.2: t6 := assign
      refine ER.nil (fun w15 h15 => ?_)
      refine AQ.round ⟨q.k + 1, _, _, q.z⟩ [0, 3, 4, 5, 6] (by rw [← wrap_succ hlt hmax]; rfl) ⟨((((((((hE.trans h8).trans h9).trans h10).trans h11).trans h12).trans h13).trans h14).trans h15), hlt, ?_, ?_⟩ (by simp only; omega)
      · simp only [addOn_succ [] l hlt]; exact own_base (Ext.own pn10 ((((h11.trans h12).trans h13).trans h14).trans h15)) hqn
      · simp only [addOn_succ [] l.reverse (by simpa using hlt : q.k < l.reverse.length), gt_reverse hlt]; exact own_base (Ext.own pm13 (h14.trans h15)) hqm
    ·
      have hge : q.k = l.length := by have := of_decide_eq_false hb1; omega
      obtain ⟨qk, vx, vy, qz⟩ := q
      simp only at hge px py
      subst hge
      rw [List.take_length] at px
      rw [show l.reverse.take l.length = l.reverse from List.take_of_length_le (by simp)] at py
      refine EC.exit ?_
      refine AQ.thenExit ?_
      refine AQ.thenExit ?_
      refine AQ.blockHit ?_
      refine AQ.then ?_
      refine EC.seq ?_
      -- region 11  law.go:75
      refine EC.region (fun i => [1, 1].getD i 0) [0, 1] rfl ?_
      refine ER.sil rfl rfl rfl rfl (Sil.move rfl) ?_  -- 11.0: t40 := move
      refine ER.sil rfl rfl rfl rfl (Sil.assign rfl) ?_  -- 11.1: t7 := assign
      refine ER.nil (fun w16 h16 => ?_)
      refine AQ.then ?_
      refine EC.seq ?_
      refine EC.seq ?_
      -- region 12  law.go:76
      refine EC.region (fun i => [1].getD i 0) [0] rfl ?_
      refine ER.sil rfl rfl rfl rfl (Sil.assign rfl) ?_  -- 12.0: t8 := assign
      refine ER.nil (fun w17 h17 => ?_)
      refine AQ.then ?_
      refine EC.block ?_
      refine EC.loop (σ := OrdS) (fun q => [(0, v), (3, .bool true), (4, vx), (5, vy), (7, q.z), (8, .int .i64 (q.k : Int))]) (fun q wr => Ext w wr ∧ q.k ≤ (addOn [] l).length ∧ wr.ownsRow w.heap.size 24 2 vx (addOn [] l).length (spCs (addOn [] l)) ∧ wr.ownsRow w.heap.size 24 2 vy (addOn [] l.reverse).length (spCs (addOn [] l.reverse)) ∧ wr.ownsRow w.heap.size 24 2 q.z (addOn (addOn [] l) ((addOn [] l).take q.k)).length (spCs (addOn (addOn [] l) ((addOn [] l).take q.k)))) (fun q => (addOn [] l).length - q.k) ⟨0, .slice none 0 0, .slice none 0 0, vx⟩ [0, 3, 4, 5, 7, 8] rfl ?_ (fun q wr hF => ?_)
      · exact ⟨(((hE.trans h8).trans h16).trans h17), Nat.zero_le _, (Ext.own px ((h8.trans h16).trans h17)), (Ext.own py ((h8.trans h16).trans h17)), (Ext.own px ((h8.trans h16).trans h17))⟩
      obtain ⟨hE, hk, px, py, pz⟩ := hF
      have hlz := addOn_length ((addOn [] l).take q.k) (addOn [] l)
      simp only [List.length_take] at hlz
      refine EC.seq ?_
      refine EC.seq ?_
      -- region 13  law.go:76
      refine EC.region (fun i => [1, 1, 1, 1].getD i 0) [0, 1, 2, 3] rfl ?_
      refine ER.sil rfl rfl rfl rfl (Sil.move rfl) ?_  -- 13.0: t41 := move
      refine ER.sil rfl rfl rfl rfl (Sil.move rfl) ?_  -- 13.1: t42 := move
      refine ER.sil rfl rfl rfl rfl (Sil.lenR Try.underlying22 rfl (Reads.isS (Spans.of_own px))) ?_  -- 13.2: t43 := call
      refine ER.sil rfl rfl rfl rfl (Sil.lss rfl rfl) ?_  -- 13.3: t44 := binOp
      refine ER.nil (fun w18 h18 => ?_)
      refine AQ.then ?_
      refine EC.cond rfl (fun hb2 => ?_) (fun hb2 => ?_)  -- cond 2: t44
      ·
        have hlt : q.k < (addOn [] l).length := by have := of_decide_eq_true hb2; omega
        refine EC.skip ?_
        refine AQ.then ?_
        refine EC.seq ?_
        refine EC.block ?_
        -- region 15  law.go:77
        refine EC.region (fun i => [1, 1, 1, 1, 0, 2, 1].getD i 0) [0, 1, 2, 3, 4, 5, 6] rfl ?_
        refine ER.sil rfl rfl rfl rfl (Sil.move rfl) ?_  -- 15.0: t47 := move
        refine ER.sil rfl rfl rfl rfl (Sil.move rfl) ?_  -- 15.1: t48 := move
        refine ER.sil rfl rfl rfl rfl (Sil.move rfl) ?_  -- 15.2: t49 := move
        refine ER.sil rfl rfl rfl rfl (Sil.indexR Try.underlying22 inf24 rfl rfl (Reads.isE (Spans.of_own (Ext.own px h18)) (by omega)) (by omega) (by omega)) ?_  -- 15.3: t50 := indexAddr
        refine ER.ex rfl rfl rfl rfl (Exa.loadAgg (vs := spC (gt (addOn [] l) q.k)) agg24 rfl (Spans.elem (Spans.of_own (Ext.own px h18)) hlt)) ?_  -- 15.4: t51 := load
        refine ER.st rfl rfl rfl rfl (fun w19 h19 => Stp.call fok12 rfl rfl (Calls.mono ((add_any (addOn (addOn [] l) ((addOn [] l).take q.k)) q.z (gt (addOn [] l) q.k) w19 ((Spans.of_own (Ext.own pz h18)).ext h19) (by omega))) ?_))  -- 15.5: t52 := call
        rintro _ w20 ⟨v20, rfl, h20, pn20⟩
        refine ⟨v20, rfl, h20, ?_⟩
        have hqn := Nat.le_trans (hE.trans h18).size h19.size
        refine ER.sil rfl rfl rfl rfl (Sil.assign rfl) ?_  -- 15.6: t7 := assign
        refine ER.nil (fun w21 h21 => ?_)
        refine AQ.blockNormal ?_
        refine AQ.then ?_
        -- region 14  law.go:76
        refine EC.region (fun i => [1, 1, 1].getD i 0) [0, 1, 2] rfl ?_
        refine ER.sil rfl rfl rfl rfl (Sil.move rfl) ?_  -- 14.0: t45 := move
        refine ER.sil rfl rfl rfl rfl (Sil.add rfl rfl) ?_  -- 14.1: t46 := binOp
        refine ER.sil rfl rfl rfl rfl (Sil.assign rfl) ?_  -- 14.2: t8 := assign
        refine ER.nil (fun w22 h22 => ?_)
        refine AQ.round ⟨q.k + 1, q.x, q.y, _⟩ [0, 3, 4, 5, 7, 8] (by rw [← wrap_succ hlt (by unfold maxLen; omega)]; rfl) ⟨(((((hE.trans h18).trans h19).trans h20).trans h21).trans h22), hlt, (Ext.own px ((((h18.trans h19).trans h20).trans h21).trans h22)), (Ext.own py ((((h18.trans h19).trans h20).trans h21).trans h22)), ?_⟩ (by simp only; omega)
        simp only [addOn_succ _ _ hlt]
        exact own_base (Ext.own pn20 (h21.trans h22)) hqn
      ·
        have hge : q.k = (addOn [] l).length := by have := of_decide_eq_false hb2; omega
        obtain ⟨qk, _, _, vz⟩ := q
        simp only at hge pz
        subst hge
        rw [List.take_length] at pz
        refine EC.exit ?_
        refine AQ.thenExit ?_
        refine AQ.thenExit ?_
        refine AQ.blockHit ?_
        refine AQ.then ?_
        refine EC.seq ?_
        -- region 16  law.go:79
        refine EC.region (fun i => [1, 1].getD i 0) [0, 1] rfl ?_
        refine ER.sil rfl rfl rfl rfl (Sil.move rfl) ?_  -- 16.0: t53 := move
        refine ER.sil rfl rfl rfl rfl (Sil.assign rfl) ?_  -- 16.1: t9 := assign
        refine ER.nil (fun w23 h23 => ?_)
        refine AQ.then ?_
        refine EC.seq ?_
        refine EC.seq ?_
        -- region 17  law.go:80
        refine EC.region (fun i => [1].getD i 0) [0] rfl ?_
        refine ER.sil rfl rfl rfl rfl (Sil.assign rfl) ?_  -- 17.0: t10 := assign
        refine ER.nil (fun w24 h24 => ?_)
        refine AQ.then ?_
        refine EC.block ?_
        refine EC.loop (σ := OrdS) (fun q => [(0, v), (3, .bool true), (4, vx), (5, vy), (7, vz), (9, q.z), (10, .int .i64 (q.k : Int))]) (fun q wr => Ext w wr ∧ q.k ≤ l.length ∧ wr.ownsRow w.heap.size 24 2 vx (addOn [] l).length (spCs (addOn [] l)) ∧ wr.ownsRow w.heap.size 24 2 vy (addOn [] l.reverse).length (spCs (addOn [] l.reverse)) ∧ wr.ownsRow w.heap.size 24 2 vz (addOn (addOn [] l) (addOn [] l)).length (spCs (addOn (addOn [] l) (addOn [] l))) ∧ wr.ownsRow w.heap.size 24 2 q.z (cutOn (addOn [] l) (l.take q.k)).length (spCs (cutOn (addOn [] l) (l.take q.k)))) (fun q => l.length - q.k) ⟨0, .slice none 0 0, .slice none 0 0, vx⟩ [0, 3, 4, 5, 7, 9, 10] rfl ?_ (fun q wr hF => ?_)
        · exact ⟨(((hE.trans h18).trans h23).trans h24), Nat.zero_le _, (Ext.own px ((h18.trans h23).trans h24)), (Ext.own py ((h18.trans h23).trans h24)), (Ext.own pz ((h18.trans h23).trans h24)), (Ext.own px ((h18.trans h23).trans h24))⟩
        obtain ⟨hE, hk, px, py, pz, pc⟩ := hF
        have hlc := (cutOn_R (l.take q.k) (addOn [] l) hRX).2
        simp only [List.length_take] at hlc
        refine EC.seq ?_
        refine EC.seq ?_
        -- region 18  law.go:80
        refine EC.region (fun i => [1, 1, 1, 1].getD i 0) [0, 1, 2, 3] rfl ?_
        refine ER.sil rfl rfl rfl rfl (Sil.move rfl) ?_  -- 18.0: t54 := move
        refine ER.sil rfl rfl rfl rfl (Sil.move rfl) ?_  -- 18.1: t55 := move
        refine ER.sil rfl rfl rfl rfl (Sil.lenR Try.underlying22 rfl (Reads.isS hl)) ?_  -- 18.2: t56 := call
        refine ER.sil rfl rfl rfl rfl (Sil.lss rfl rfl) ?_  -- 18.3: t57 := binOp
        refine ER.nil (fun w25 h25 => ?_)
        refine AQ.then ?_
        refine EC.cond rfl (fun hb3 => ?_) (fun hb3 => ?_)  -- cond 3: t57
        ·
          have hlt : q.k < l.length := by have := of_decide_eq_true hb3; omega
          refine EC.skip ?_
          refine AQ.then ?_
          refine EC.seq ?_
          refine EC.block ?_
          -- region 20  law.go:81
          refine EC.region (fun i => [1, 1, 1, 1, 0, 2, 1].getD i 0) [0, 1, 2, 3, 4, 5, 6] rfl ?_
          refine ER.sil rfl rfl rfl rfl (Sil.move rfl) ?_  -- 20.0: t60 := move
          refine ER.sil rfl rfl rfl rfl (Sil.move rfl) ?_  -- 20.1: t61 := move
          refine ER.sil rfl rfl rfl rfl (Sil.move rfl) ?_  -- 20.2: t62 := move
          refine ER.sil rfl rfl rfl rfl (Sil.indexR Try.underlying22 inf24 rfl rfl (Reads.isE (hl.ext (hE.trans h25)) (by omega)) (by omega) (by omega)) ?_  -- 20.3: t63 := indexAddr
          refine ER.ex rfl rfl rfl rfl (Exa.loadAgg (vs := spC (gt l q.k)) agg24 rfl (Spans.elem (hl.ext (hE.trans h25)) hlt)) ?_  -- 20.4: t64 := load
          refine ER.st rfl rfl rfl rfl (fun w26 h26 => Stp.call fok14 rfl rfl (Calls.mono ((cut_any (cutOn (addOn [] l) (l.take q.k)) q.z (gt l q.k) w26 ((Spans.of_own (Ext.own pc h25)).ext h26) (by omega))) ?_))  -- 20.5: t65 := call
          rintro _ w27 ⟨v27, rfl, h27, pn27⟩
          refine ⟨v27, rfl, h27, ?_⟩
          have hqn := Nat.le_trans (hE.trans h25).size h26.size
          refine ER.sil rfl rfl rfl rfl (Sil.assign rfl) ?_  -- 20.6: t9 := assign
          refine ER.nil (fun w28 h28 => ?_)
          refine AQ.blockNormal ?_
          refine AQ.then ?_
          -- region 19  law.go:80
          refine EC.region (fun i => [1, 1, 1].getD i 0) [0, 1, 2] rfl ?_
          refine ER.sil rfl rfl rfl rfl (Sil.move rfl) ?_  -- 19.0: t58 := move
          refine ER.sil rfl rfl rfl rfl (Sil.add rfl rfl) ?_  -- 19.1: t59 := binOp
          refine ER.sil rfl rfl rfl rfl (Sil.assign rfl) ?_  -- 19.2: t10 := assign
          refine ER.nil (fun w29 h29 => ?_)
          refine AQ.round ⟨q.k + 1, q.x, q.y, _⟩ [0, 3, 4, 5, 7, 9, 10] (by rw [← wrap_succ hlt hmax]; rfl) ⟨(((((hE.trans h25).trans h26).trans h27).trans h28).trans h29), hlt, (Ext.own px ((((h25.trans h26).trans h27).trans h28).trans h29)), (Ext.own py ((((h25.trans h26).trans h27).trans h28).trans h29)), (Ext.own pz ((((h25.trans h26).trans h27).trans h28).trans h29)), ?_⟩ (by simp only; omega)
          simp only [cutOn_succ _ _ hlt]
          exact own_base (Ext.own pn27 (h28.trans h29)) hqn
        ·
          have hge : q.k = l.length := by have := of_decide_eq_false hb3; omega
          obtain ⟨qk, _, _, vc⟩ := q
          simp only at hge pc
          subst hge
          rw [List.take_length] at pc
          refine EC.exit ?_
          refine AQ.thenExit ?_
          refine AQ.thenExit ?_
          refine AQ.blockHit ?_
          refine AQ.then ?_
          refine EC.seq ?_
          -- region 21  law.go:83
          refine EC.region (fun i => [1, 1, 0, 1].getD i 0) [0, 1, 2, 3] rfl ?_
          refine ER.sil rfl rfl rfl rfl (Sil.move rfl) ?_  -- 21.0: t66 := move
          refine ER.sil rfl rfl rfl rfl (Sil.move rfl) ?_  -- 21.1: t67 := move
          refine ER.ex rfl rfl rfl rfl (Exa.call fok11 rfl rfl (fun wx hx => (refSame_any (addOn [] l) (addOn [] l.reverse) _ _ wx ((Spans.of_own (Ext.own px h25)).ext hx) ((Spans.of_own (Ext.own py h25)).ext hx)))) ?_  -- 21.2: t68 := call
          refine ER.sil rfl rfl rfl rfl (Sil.assign rfl) ?_  -- 21.3: t11 := assign
          refine ER.nil (fun w30 h30 => ?_)
          refine AQ.then ?_
          refine EC.seq ?_
          -- region 22  law.go:84
          refine EC.region (fun i => [1, 1, 0, 1].getD i 0) [0, 1, 2, 3] rfl ?_
          refine ER.sil rfl rfl rfl rfl (Sil.move rfl) ?_  -- 22.0: t69 := move
          refine ER.sil rfl rfl rfl rfl (Sil.move rfl) ?_  -- 22.1: t70 := move
          refine ER.ex rfl rfl rfl rfl (Exa.call fok11 rfl rfl (fun wx hx => (refSame_any (addOn [] l) (addOn (addOn [] l) (addOn [] l)) _ _ wx ((Spans.of_own (Ext.own px (h25.trans h30))).ext hx) ((Spans.of_own (Ext.own pz (h25.trans h30))).ext hx)))) ?_  -- 22.2: t71 := call
          refine ER.sil rfl rfl rfl rfl (Sil.assign rfl) ?_  -- 22.3: t12 := assign
          refine ER.nil (fun w31 h31 => ?_)
          refine AQ.then ?_
          refine EC.seq ?_
          -- region 23  law.go:85
          refine EC.region (fun i => [1, 1, 1, 1, 1, 1, 1, 1, 1, 0, 1, 1, 1, 1, 1, 1, 1].getD i 0) [0, 1, 2, 3, 4, 5, 6, 7, 8, 9, 10, 11, 12, 13, 14, 15, 16] rfl ?_
          refine ER.sil rfl rfl rfl rfl (Sil.move rfl) ?_  -- 23.0: t72 := move
          refine ER.sil rfl rfl rfl rfl (Sil.move rfl) ?_  -- 23.1: t73 := move
          refine ER.silG rfl rfl rfl rfl rfl rfl (fun hc => Sil.move rfl) ?_  -- 23.2: t74 := move
          refine ER.sil rfl rfl rfl rfl (Sil.pickAnd rfl rfl rfl) ?_  -- 23.3: t75 := pick
          refine ER.sil rfl rfl rfl rfl (Sil.move rfl) ?_  -- 23.4: t76 := move
          refine ER.silG rfl rfl rfl rfl rfl rfl (fun hc => Sil.move rfl) ?_  -- 23.5: t77 := move
          refine ER.sil rfl rfl rfl rfl (Sil.pickAnd rfl rfl rfl) ?_  -- 23.6: t78 := pick
          refine ER.sil rfl rfl rfl rfl (Sil.move rfl) ?_  -- 23.7: t79 := move
          refine ER.silG rfl rfl rfl rfl rfl rfl (fun hc => Sil.move rfl) ?_  -- 23.8: t80 := move
          refine ER.exG rfl rfl rfl rfl rfl rfl (fun hc => Exa.call fok16 rfl (evs_cons (congrArg some (sel_eq hc _)) evs_nil) (fun wx hx => (right_any (addOn [] l) _ wx ((Spans.of_own (Ext.own px ((h25.trans h30).trans h31))).ext hx)))) ?_  -- 23.9: t81 := call
          refine ER.sil rfl rfl rfl rfl (Sil.pickAnd rfl rfl rfl) ?_  -- 23.10: t82 := pick
          refine ER.sil rfl rfl rfl rfl (Sil.move rfl) ?_  -- 23.11: t83 := move
          refine ER.silG rfl rfl rfl rfl rfl rfl (fun hc => Sil.move rfl) ?_  -- 23.12: t84 := move
          refine ER.silG rfl rfl rfl rfl rfl rfl (fun hc => Sil.lenR Try.underlying22 (congrArg some (sel_eq hc _)) (Reads.isS (Spans.of_own (Ext.own pc ((h25.trans h30).trans h31))))) ?_  -- 23.13: t85 := call
          refine ER.silG rfl rfl rfl rfl rfl rfl (fun hc => Sil.eql (congrArg some (sel_eq hc _)) rfl) ?_  -- 23.14: t86 := binOp
          refine ER.sil rfl rfl rfl rfl (Sil.pickAnd rfl rfl rfl) ?_  -- 23.15: t87 := pick
          refine ER.sil rfl rfl rfl rfl (Sil.assign rfl) ?_  -- 23.16: t2 := assign
          refine ER.nil (fun w32 h32 => ?_)
          refine AQ.then ?_
          refine EC.ret ?_
          refine AQ.ret1 Try.results6 rfl ?_
          exact ⟨ret_b (show ordersGo l = lawOrders l by rw [lawOrders, hb0]; rfl), ((((hE.trans h25).trans h30).trans h31).trans h32)⟩

end Go.Proofs.Ytnnmeipmkfbpdaa
