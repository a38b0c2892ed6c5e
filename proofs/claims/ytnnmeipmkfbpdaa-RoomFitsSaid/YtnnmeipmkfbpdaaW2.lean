/- Room: the walk of Right. -/
import Derived.Test.YtnnmeipmkfbpdaaW1
namespace Go.Proofs.Ytnnmeipmkfbpdaa
open Go.RowKit Go.XK Go.RoomLaw
theorem right_any (l : List Sp) (v : Value) (w : World) (hl : Spans w v l) :
    Calls Try.prog 16 [v].toArray w fun e w' => e = .returned (.bool (rightB l)) ∧ Ext w w' := by
  obtain ⟨b0, c0, rfl, hnc, hcm⟩ := Reads.len hl
  refine calls_of Try.func16 rfl Try.ntmps16 rfl ?_
  refine EC.seq ?_
  -- region 0  room.go:20
  refine EC.region (fun i => [1].getD i 0) [0] rfl ?_
  refine ER.sil rfl rfl rfl rfl (Sil.assign rfl) ?_  -- 0: t2 := assign
  refine ER.nil (fun w1 h1 => ?_)
  refine AQ.then ?_
  refine EC.seq ?_
  refine EC.seq ?_
  -- region 1  room.go:21
  refine EC.region (fun i => [1, 1, 1].getD i 0) [0, 1, 2] rfl ?_
  refine ER.sil rfl rfl rfl rfl (Sil.move rfl) ?_  -- 0: t5 := move
  refine ER.sil rfl rfl rfl rfl (Sil.len Try.underlying22 rfl) ?_  -- 1: t6 := call
  refine ER.sil rfl rfl rfl rfl (Sil.move rfl) ?_  -- 2: t7 := move
  refine ER.nil (fun w2 h2 => ?_)
  refine AQ.then ?_
  refine EC.block ?_
  refine EC.loop (σ := Nat) (fun k => [(0, .slice b0 l.length c0), (5, .slice b0 l.length c0), (6, .int .i64 (l.length : Int)), (7, .int .i64 (k : Int))])
    (fun k wr => Ext w wr ∧ k ≤ l.length ∧ ∀ j, j < k → badAt l j = false) (fun k => l.length - k) 0 [0, 5, 6, 7] rfl ?_ (fun k wr hF => ?_)
  · exact ⟨h1.trans h2, Nat.zero_le _, fun j hj => absurd hj (Nat.not_lt_zero _)⟩
  obtain ⟨hE, hk, hok⟩ := hF
  -- hF: hE and the rows []
  refine EC.seq ?_
  -- region 2  room.go:21
  refine EC.region (fun i => [1].getD i 0) [0] rfl ?_
  refine ER.sil rfl rfl rfl rfl (Sil.lss rfl rfl) ?_  -- 0: t8 := binOp
  refine ER.nil (fun w3 h3 => ?_)
  refine AQ.then ?_
  refine EC.seq ?_
  refine EC.cond rfl (fun hb => ?_) (fun hb => ?_)  -- t8
  ·
    have hlt : k < l.length := by simpa using hb
    obtain ⟨b, o, c', hv', _, _, hat⟩ := Reads.has (hl.ext (hE.trans h3)) (Nat.lt_of_le_of_lt (Nat.zero_le _) hlt)
    injection hv' with ev1 _ ev2
    subst ev1
    refine EC.skip ?_
    refine AQ.then ?_
    refine EC.seq ?_
    refine EC.block ?_
    refine EC.seq ?_
    -- region 3  room.go:21
    refine EC.region (fun i => [1, 1, 0, 2, 1, 3].getD i 0) [0, 1, 2, 3, 4, 5] rfl ?_
    refine ER.sil rfl rfl rfl rfl (Sil.move rfl) ?_  -- 0: t9 := move
    refine ER.sil rfl rfl rfl rfl (Sil.indexAddr Try.underlying22 inf24 rfl rfl (by omega) (by omega)) ?_  -- 1: t10 := indexAddr
    refine ER.ex rfl rfl rfl rfl (Exa.loadAgg (vs := spC (gt l k)) agg24 rfl (Spans.at hat hlt)) ?_  -- 2: t11 := load
    refine ER.st rfl rfl rfl rfl (fun w4 h4 => Stp.alloc inf24 (fun w5 h5 s5 r5 => ⟨h5, ?_⟩))  -- 3: t4 := alloc
    refine ER.sil rfl rfl rfl rfl (Sil.assign rfl) ?_  -- 4: t3 := assign
    refine ER.bar rfl rfl rfl rfl (fun w6 h6 => Stp.store (by kernel_rfl) rfl rfl (r5.ext h6) rfl rfl (fun w7 u7 r7 => ?_))  -- 5: tNone := store
    have e7 := (((h4.trans h5).trans h6)).upd u7 h4.size
    refine ER.nil (fun w8 h8 => ?_)
    refine AQ.then ?_
    refine EC.seq ?_
    -- region 4  room.go:22
    refine EC.draw (fun i => [0, 0, 1, 1, 1, 0, 1, 1, 1, 1, 1, 1, 1, 1, 1, 1, 0, 0, 1, 0, 1, 1, 1].getD i 0) [0, 1, 2, 3, 4, 5, 6, 7, 8, 9, 10, 11, 12, 13, 14, 15, 16, 17, 18, 19, 20, 21, 22] (by kernel_rfl) (by kernel_rfl) ?_
    refine ER.ex rfl rfl rfl rfl (Exa.loadAgg (vs := spC (gt l k)) agg24 rfl ((r7.ext h8).at)) ?_  -- 0: t12 := load
    refine ER.ex rfl rfl rfl rfl (Exa.call fok27 rfl rfl (fun wx hx => valid_any (gt l k) wx)) ?_  -- 1: t13 := call
    refine ER.sil rfl rfl rfl rfl (Sil.not rfl) ?_  -- 2: t14 := unOp
    refine ER.sil rfl rfl rfl rfl (Sil.move rfl) ?_  -- 3: t15 := move
    refine ER.silG rfl rfl rfl rfl rfl rfl (fun hc => Sil.fieldAddr Try.underlying24 rfl inf3 rfl) ?_  -- 4: t16 := fieldAddr
    refine ER.exG rfl rfl rfl rfl rfl rfl (fun hc => Exa.load flat3 (congrArg some (sel_eq hc _)) ((r7.ext h8).cell rfl)) ?_  -- 5: t17 := load
    refine ER.silG rfl rfl rfl rfl rfl rfl (fun hc => Sil.eql (congrArg some (sel_eq hc _)) rfl) ?_  -- 6: t18 := binOp
    refine ER.sil rfl rfl rfl rfl (Sil.pickOr rfl rfl rfl) ?_  -- 7: t19 := pick
    refine ER.sil rfl rfl rfl rfl (Sil.move rfl) ?_  -- 8: t20 := move
    refine ER.silG rfl rfl rfl rfl rfl rfl (fun hc => Sil.move rfl) ?_  -- 9: t21 := move
    refine ER.silG rfl rfl rfl rfl rfl rfl (fun hc => Sil.gtr (congrArg some (sel_eq hc _)) rfl) ?_  -- 10: t22 := binOp
    refine ER.silG rfl rfl rfl rfl rfl rfl (fun hc => Sil.move (congrArg some (sel_eq hc _))) ?_  -- 11: t23 := move
    refine ER.silGG rfl rfl rfl rfl rfl rfl (fun hp hc => Sil.move rfl) ?_  -- 12: t24 := move
    refine ER.silGG rfl rfl rfl rfl rfl rfl (fun hp hc => Sil.move rfl) ?_  -- 13: t25 := move
    refine ER.silGG rfl rfl rfl rfl rfl rfl (fun hp hc => Sil.sub (congrArg some (sel_2 hp hc _)) rfl) ?_  -- 14: t26 := binOp
    refine ER.silGG rfl rfl rfl rfl rfl rfl (fun hp hc => Sil.indexAddr Try.underlying22 inf24 (congrArg some (sel_2 hp hc _)) (congrArg some (sel_2 hp hc _)) (by have h0 : (0 : Int) < k := (by simpa using hc); rw [wrap_pred hk (Nat.le_trans hnc hcm) (by omega)]; omega) (by have h0 : (0 : Int) < k := (by simpa using hc); rw [wrap_pred hk (Nat.le_trans hnc hcm) (by omega)]; omega)) ?_  -- 15: t27 := indexAddr
    refine ER.exGG rfl rfl rfl rfl rfl rfl (fun hp hc => Exa.loadAgg (vs := spC (gt l (k - 1))) agg24 (congrArg some (sel_2 hp hc _)) (by have h0 : (0 : Int) < k := (by simpa using hc); rw [wrap_pred hk (Nat.le_trans hnc hcm) (by omega)]; exact (Spans.at hat (by omega)).ext (e7.trans h8))) ?_  -- 16: t28 := load
    refine ER.exGG rfl rfl rfl rfl rfl rfl (fun hp hc => Exa.call fok26 rfl (evs_cons (congrArg some (sel_2 hp hc _)) evs_nil) (fun wx hx => end_any (gt l (k - 1)) wx)) ?_  -- 17: t29 := call
    refine ER.silGG rfl rfl rfl rfl rfl rfl (fun hp hc => Sil.fieldAddr Try.underlying24 rfl inf3 rfl) ?_  -- 18: t30 := fieldAddr
    refine ER.exGG rfl rfl rfl rfl rfl rfl (fun hp hc => Exa.load flat3 (congrArg some (sel_2 hp hc _)) ((r7.ext h8).cell rfl)) ?_  -- 19: t31 := load
    refine ER.silGG rfl rfl rfl rfl rfl rfl (fun hp hc => Sil.geq (congrArg some (sel_2 hp hc _)) (congrArg some (sel_2 hp hc _))) ?_  -- 20: t32 := binOp
    refine ER.silG rfl rfl rfl rfl rfl rfl (fun hc => Sil.pickAnd (congrArg some (sel_eq hc _)) (congrArg some (sel_in hc _ _)) rfl) ?_  -- 21: t33 := pick
    refine ER.sil rfl rfl rfl rfl (Sil.pickOr rfl rfl rfl) ?_  -- 22: t34 := pick
    refine ER.nil (fun w9 h9 => ?_)
    refine AQ.then ?_
    refine EC.cond rfl (fun hb => ?_) (fun hb => ?_)  -- t34
    ·
      refine EC.seq ?_
      -- region 5  room.go:23
      refine EC.region (fun i => [1].getD i 0) [0] rfl ?_
      refine ER.sil rfl rfl rfl rfl (Sil.assign rfl) ?_  -- 0: t2 := assign
      refine ER.nil (fun w10 h10 => ?_)
      refine AQ.then ?_
      refine EC.ret ?_
      refine AQ.blockRet ?_
      refine AQ.thenRet ?_
      refine AQ.thenRet ?_
      refine AQ.blockRet ?_
      refine AQ.thenRet ?_
      refine AQ.ret1 Try.results16 rfl ?_
      exact ⟨by rw [rightB_false hlt hb], ((((hE.trans h3).trans e7).trans h8).trans h9).trans h10⟩
    ·
      refine EC.skip ?_
      refine AQ.blockNormal ?_
      refine AQ.then ?_
      -- region 6  room.go:21
      refine EC.region (fun i => [1, 1].getD i 0) [0, 1] rfl ?_
      refine ER.sil rfl rfl rfl rfl (Sil.add rfl rfl) ?_  -- 0: t35 := binOp
      refine ER.sil rfl rfl rfl rfl (Sil.move rfl) ?_  -- 1: t7 := move
      refine ER.nil (fun w11 h11 => ?_)
      refine AQ.round (k + 1) [0, 5, 6, 7] (by rw [wrap_succ hlt (Nat.le_trans hnc hcm)]; rfl) ⟨((((hE.trans h3).trans e7).trans h8).trans h9).trans h11, hlt, fun j hj => ?_⟩ (by omega)
      rcases Nat.lt_or_eq_of_le (Nat.le_of_lt_succ hj) with hj | rfl
      · exact hok j hj
      · exact hb
  ·
    refine EC.exit ?_
    refine AQ.thenExit ?_
    refine AQ.thenExit ?_
    refine AQ.blockHit ?_
    refine AQ.then ?_
    refine EC.seq ?_
    -- region 7  room.go:26
    refine EC.region (fun i => [1].getD i 0) [0] rfl ?_
    refine ER.sil rfl rfl rfl rfl (Sil.assign rfl) ?_  -- 0: t2 := assign
    refine ER.nil (fun w12 h12 => ?_)
    refine AQ.then ?_
    refine EC.ret ?_
    refine AQ.ret1 Try.results16 rfl ?_
    have hge : k = l.length := by have : ¬ ((k : Int) < l.length) := (by simpa using hb); omega
    subst hge
    exact ⟨by rw [rightB_true hok], (hE.trans h3).trans h12⟩
end Go.Proofs.Ytnnmeipmkfbpdaa
