/- Locate: the bound, the reference's Find. -/
import Derived.Test.YtcgapppamhffjaaW10
namespace Go.Proofs.Ytcgapppamhffjaa
open Go.RowKit Go.XK Go.LocateLaw

theorem at_sub {w : World} {b o : Nat} {cs : List Value} (h : At w b 0 cs) (k n : Nat) : At w b (o + k) ((cs.drop (o + k)).take n) := fun j v hj => by
  rw [List.getElem?_take] at hj
  split at hj
  · rw [List.getElem?_drop] at hj
    have := h _ _ hj
    rwa [Nat.zero_add] at this
  · cases hj
theorem sub_get {cs : List Value} {o n j : Nat} {v : Value} (h : cs[o + j]? = some v) (hj : j < n) : ((cs.drop o).take n)[j]? = some v := by
  rw [List.getElem?_take, if_pos hj, List.getElem?_drop]
  exact h
theorem sub_len {cs : List Value} (h : cs.length = 26) : ((cs.drop 19).take 6).length = 6 := by simp [h]
theorem in_sz {cs : List Value} (hl : cs.length = 26) : (Try.prog.info? 36).map (·.size) = some (Value.agg ((cs.drop 19).take 6).toArray).cells.size := by
  rw [show (Value.agg ((cs.drop 19).take 6).toArray).cells.size = 6 by simp [Value.cells, hl]]
  kernel_rfl
theorem in_one {cs : List Value} (h : ∀ q ∈ cs, q.oneCell' = true) : ∀ q ∈ (cs.drop 19).take 6, q.oneCell' = true := fun q hq => h q (List.mem_of_mem_drop (List.mem_of_mem_take hq))

-- linchpin/linchpinlaw42.few: parameters ['api.Image'] (free 0), results [('ResultVar.tmp', 2)], 34 slots
set_option maxRecDepth 100000 in
theorem few_any (cs : List Value) (inf : Inf) (w : World) (hi : InfC w cs inf) :
    Calls Try.prog 6 [.agg cs.toArray].toArray w fun e w' => e = .returned (.bool (fewB inf)) ∧ Ext w w' := by
  obtain ⟨hcl, ⟨v1, a1, b1⟩, ⟨v2, a2, b2⟩, ⟨v3, a3, b3⟩, ⟨v4, a4, b4⟩, ⟨v5, a5, b5⟩, hone⟩ := hi
  refine calls_of Try.func6 rfl Try.ntmps6 rfl ?_
  refine EC.seq ?_
  -- region 0  law.go:35
  refine EC.region (fun i => [2, 1].getD i 0) [0, 1] rfl ?_
  refine ER.st rfl rfl rfl rfl (fun w1 h1 => Stp.box rfl (fun w2 h2 s2 r2 => ⟨h2, ?_⟩))  -- 0.0: t1 := box
  refine ER.sil rfl rfl rfl rfl (Sil.assign rfl) ?_  -- 0.1: t2 := assign
  refine ER.nil (fun w3 h3 => ?_)
  refine AQ.then ?_
  refine EC.seq ?_
  -- region 1  law.go:36
  refine EC.region (fun i => [1, 0, 2, 3].getD i 0) [0, 1, 2, 3] rfl ?_
  refine ER.sil rfl rfl rfl rfl (Sil.fieldAddr Try.underlying39 rfl inf36 rfl) ?_  -- 1.0: t4 := fieldAddr
  refine ER.ex rfl rfl rfl rfl (Exa.loadAgg (vs := ((cs.drop 19).take 6)) (by rw [sub_len hcl]; exact agg36) rfl (at_sub (o := 19) ((r2.ext h3).at) 0 6)) ?_  -- 1.1: t5 := load
  refine ER.st rfl rfl rfl rfl (fun w4 h4 => Stp.alloc inf36 (fun w5 h5 s5 r5 => ⟨h5, ?_⟩))  -- 1.2: t3 := alloc
  refine ER.bar rfl rfl rfl rfl (fun w6 h6 => Stp.store (in_sz hcl) rfl rfl (r5.ext h6) (ag_len (sub_len hcl)) (ag_one (in_one hone)) (fun w7 u7 r7 => ?_))  -- 1.3: tNone := store
  have e7 := ((h4.trans h5).trans h6).upd u7 h4.size
  refine ER.nil (fun w8 h8 => ?_)
  refine AQ.then ?_
  refine EC.seq ?_
  -- region 2  law.go:37
  refine EC.region (fun i => [1, 0, 1, 1, 1, 1, 0, 1, 1, 1, 1, 1, 0, 1, 1, 1, 1, 1, 0, 1, 1, 1, 1, 1, 0, 1, 1, 1, 1].getD i 0) [0, 1, 2, 3, 4, 5, 6, 7, 8, 9, 10, 11, 12, 13, 14, 15, 16, 17, 18, 19, 20, 21, 22, 23, 24, 25, 26, 27, 28] rfl ?_
  refine ER.sil rfl rfl rfl rfl (Sil.fieldAddr Try.underlying36 rfl inf29 rfl) ?_  -- 2.0: t6 := fieldAddr
  refine ER.ex rfl rfl rfl rfl (Exa.load flat29 rfl (((r7.ext h8)).cell (sub_get (o := 19) a1 (by decide)))) ?_  -- 2.1: t7 := load
  refine ER.sil rfl rfl rfl rfl (Sil.lenR Try.underlying29 rfl (b1.isS)) ?_  -- 2.2: t8 := call
  refine ER.sil rfl rfl rfl rfl (Sil.leq rfl rfl) ?_  -- 2.3: t9 := binOp
  refine ER.sil rfl rfl rfl rfl (Sil.move rfl) ?_  -- 2.4: t10 := move
  refine ER.silG rfl rfl rfl rfl rfl rfl (fun hc => Sil.fieldAddr Try.underlying36 rfl inf30 rfl) ?_  -- 2.5: t11 := fieldAddr
  refine ER.exG rfl rfl rfl rfl rfl rfl (fun hc => Exa.load flat30 (congrArg some (sel_eq hc _)) (((r7.ext h8)).cell (sub_get (o := 19) a2 (by decide)))) ?_  -- 2.6: t12 := load
  refine ER.silG rfl rfl rfl rfl rfl rfl (fun hc => Sil.lenR Try.underlying30 (congrArg some (sel_eq hc _)) (b2.isS)) ?_  -- 2.7: t13 := call
  refine ER.silG rfl rfl rfl rfl rfl rfl (fun hc => Sil.leq (congrArg some (sel_eq hc _)) rfl) ?_  -- 2.8: t14 := binOp
  refine ER.sil rfl rfl rfl rfl (Sil.pickAnd rfl rfl rfl) ?_  -- 2.9: t15 := pick
  refine ER.sil rfl rfl rfl rfl (Sil.move rfl) ?_  -- 2.10: t16 := move
  refine ER.silG rfl rfl rfl rfl rfl rfl (fun hc => Sil.fieldAddr Try.underlying36 rfl inf31 rfl) ?_  -- 2.11: t17 := fieldAddr
  refine ER.exG rfl rfl rfl rfl rfl rfl (fun hc => Exa.load flat31 (congrArg some (sel_eq hc _)) (((r7.ext h8)).cell (sub_get (o := 19) a3 (by decide)))) ?_  -- 2.12: t18 := load
  refine ER.silG rfl rfl rfl rfl rfl rfl (fun hc => Sil.lenR Try.underlying31 (congrArg some (sel_eq hc _)) (b3.isS)) ?_  -- 2.13: t19 := call
  refine ER.silG rfl rfl rfl rfl rfl rfl (fun hc => Sil.leq (congrArg some (sel_eq hc _)) rfl) ?_  -- 2.14: t20 := binOp
  refine ER.sil rfl rfl rfl rfl (Sil.pickAnd rfl rfl rfl) ?_  -- 2.15: t21 := pick
  refine ER.sil rfl rfl rfl rfl (Sil.move rfl) ?_  -- 2.16: t22 := move
  refine ER.silG rfl rfl rfl rfl rfl rfl (fun hc => Sil.fieldAddr Try.underlying36 rfl inf32 rfl) ?_  -- 2.17: t23 := fieldAddr
  refine ER.exG rfl rfl rfl rfl rfl rfl (fun hc => Exa.load flat32 (congrArg some (sel_eq hc _)) (((r7.ext h8)).cell (sub_get (o := 19) a4 (by decide)))) ?_  -- 2.18: t24 := load
  refine ER.silG rfl rfl rfl rfl rfl rfl (fun hc => Sil.lenR Try.underlying32 (congrArg some (sel_eq hc _)) (b4.isS)) ?_  -- 2.19: t25 := call
  refine ER.silG rfl rfl rfl rfl rfl rfl (fun hc => Sil.leq (congrArg some (sel_eq hc _)) rfl) ?_  -- 2.20: t26 := binOp
  refine ER.sil rfl rfl rfl rfl (Sil.pickAnd rfl rfl rfl) ?_  -- 2.21: t27 := pick
  refine ER.sil rfl rfl rfl rfl (Sil.move rfl) ?_  -- 2.22: t28 := move
  refine ER.silG rfl rfl rfl rfl rfl rfl (fun hc => Sil.fieldAddr Try.underlying36 rfl inf33 rfl) ?_  -- 2.23: t29 := fieldAddr
  refine ER.exG rfl rfl rfl rfl rfl rfl (fun hc => Exa.load flat33 (congrArg some (sel_eq hc _)) (((r7.ext h8)).cell (sub_get (o := 19) a5 (by decide)))) ?_  -- 2.24: t30 := load
  refine ER.silG rfl rfl rfl rfl rfl rfl (fun hc => Sil.lenR Try.underlying33 (congrArg some (sel_eq hc _)) (b5.isS)) ?_  -- 2.25: t31 := call
  refine ER.silG rfl rfl rfl rfl rfl rfl (fun hc => Sil.leq (congrArg some (sel_eq hc _)) rfl) ?_  -- 2.26: t32 := binOp
  refine ER.sil rfl rfl rfl rfl (Sil.pickAnd rfl rfl rfl) ?_  -- 2.27: t33 := pick
  refine ER.sil rfl rfl rfl rfl (Sil.assign rfl) ?_  -- 2.28: t2 := assign
  refine ER.nil (fun w9 h9 => ?_)
  refine AQ.then ?_
  refine EC.ret ?_
  refine AQ.ret1 Try.results6 rfl ?_
  exact ⟨rfl, (((((h1.trans h2).trans h3).trans e7).trans h8).trans h9)⟩

-- linchpin/linchpinref42.Find: parameters ['api.Image', 'string'] (free 0), results [('ResultVar.tmp', 4), ('ResultVar.tmp', 5)], 33 slots
set_option maxRecDepth 100000 in
theorem findr_any (cs : List Value) (inf : Inf) (s : ByteArray) (w : World) (hi : InfC w cs inf) :
    Calls Try.prog 10 [.agg cs.toArray, .string s].toArray w fun e w' => e = .returned (.tuple #[.int .i64 (findAt inf s), .bool (findB inf s)]) ∧ Ext w w' := by
  obtain ⟨mv, hmv, hml⟩ := hi.2.1
  have hm := hml.max
  refine calls_of Try.func10 rfl Try.ntmps10 rfl ?_
  refine EC.seq ?_
  -- region 0  ref.go:68
  refine EC.region (fun i => [2, 1, 1].getD i 0) [0, 1, 2] rfl ?_
  refine ER.st rfl rfl rfl rfl (fun w1 h1 => Stp.box rfl (fun w2 h2 s2 r2 => ⟨h2, ?_⟩))  -- 0.0: t2 := box
  refine ER.sil rfl rfl rfl rfl (Sil.assign rfl) ?_  -- 0.1: t4 := assign
  refine ER.sil rfl rfl rfl rfl (Sil.assign rfl) ?_  -- 0.2: t5 := assign
  refine ER.nil (fun w3 h3 => ?_)
  refine AQ.then ?_
  refine EC.seq ?_
  refine EC.seq ?_
  -- region 1  ref.go:69
  refine EC.region (fun i => [1].getD i 0) [0] rfl ?_
  refine ER.sil rfl rfl rfl rfl (Sil.assign rfl) ?_  -- 1.0: t6 := assign
  refine ER.nil (fun w4 h4 => ?_)
  refine AQ.then ?_
  refine EC.block ?_
  refine EC.loop (σ := Nat) (fun k => [(1, .string s), (2, ptr w1.heap.size), (6, .int .i64 (k : Int))]) (fun k wr => Ext w wr ∧ Row wr w1.heap.size 39 cs ∧ k ≤ inf.marks.length ∧ ∀ j (h : j < inf.marks.length), j < k → fnP s inf.marks[j] = false) (fun k => inf.marks.length - k) 0 [1, 2, 6] rfl ?_ (fun k wr hF => ?_)
  · exact ⟨(((h1.trans h2).trans h3).trans h4), (r2.ext (h3.trans h4)), Nat.zero_le _, fun j _ h => absurd h (Nat.not_lt_zero j)⟩
  obtain ⟨hE, q2, hk, hok⟩ := hF
  refine EC.seq ?_
  refine EC.seq ?_
  -- region 2  ref.go:69
  refine EC.region (fun i => [1, 1, 1, 0, 1, 1].getD i 0) [0, 1, 2, 3, 4, 5] rfl ?_
  refine ER.sil rfl rfl rfl rfl (Sil.move rfl) ?_  -- 2.0: t8 := move
  refine ER.sil rfl rfl rfl rfl (Sil.fieldAddr Try.underlying39 rfl inf36 rfl) ?_  -- 2.1: t9 := fieldAddr
  refine ER.sil rfl rfl rfl rfl (Sil.fieldAddr Try.underlying36 rfl inf29 rfl) ?_  -- 2.2: t10 := fieldAddr
  refine ER.ex rfl rfl rfl rfl (Exa.load flat29 rfl ((q2).cell hmv)) ?_  -- 2.3: t11 := load
  refine ER.sil rfl rfl rfl rfl (Sil.lenR Try.underlying29 rfl (hml.isS)) ?_  -- 2.4: t12 := call
  refine ER.sil rfl rfl rfl rfl (Sil.lss rfl rfl) ?_  -- 2.5: t13 := binOp
  refine ER.nil (fun w5 h5 => ?_)
  refine AQ.then ?_
  refine EC.cond rfl (fun hb0 => ?_) (fun hb0 => ?_)  -- cond 0: t13
  ·
    have hlt : k < inf.marks.length := by have := of_decide_eq_true hb0; omega
    refine EC.skip ?_
    refine AQ.then ?_
    refine EC.seq ?_
    refine EC.block ?_
    refine EC.seq ?_
    -- region 4  ref.go:70
    refine EC.region (fun i => [1, 1, 0, 1, 1, 0, 2, 3].getD i 0) [0, 1, 2, 3, 4, 5, 6, 7] rfl ?_
    refine ER.sil rfl rfl rfl rfl (Sil.fieldAddr Try.underlying39 rfl inf36 rfl) ?_  -- 4.0: t16 := fieldAddr
    refine ER.sil rfl rfl rfl rfl (Sil.fieldAddr Try.underlying36 rfl inf29 rfl) ?_  -- 4.1: t17 := fieldAddr
    refine ER.ex rfl rfl rfl rfl (Exa.load flat29 rfl (((q2.ext h5)).cell hmv)) ?_  -- 4.2: t18 := load
    refine ER.sil rfl rfl rfl rfl (Sil.move rfl) ?_  -- 4.3: t19 := move
    refine ER.sil rfl rfl rfl rfl (Sil.indexR Try.underlying29 inf66 rfl rfl (hml.isE (by omega)) (by omega) (by omega)) ?_  -- 4.4: t20 := indexAddr
    refine ER.ex rfl rfl rfl rfl (Exa.loadAgg (vs := (mkC inf.marks[k])) agg66 rfl ((hml.at hlt).ext (hE.trans h5))) ?_  -- 4.5: t21 := load
    refine ER.st rfl rfl rfl rfl (fun w6 h6 => Stp.alloc inf66 (fun w7 h7 s7 r7 => ⟨h7, ?_⟩))  -- 4.6: t7 := alloc
    refine ER.bar rfl rfl rfl rfl (fun w8 h8 => Stp.store (by kernel_rfl) rfl rfl (r7.ext h8) rfl rfl (fun w9 u9 r9 => ?_))  -- 4.7: tNone := store
    have e9 := ((h6.trans h7).trans h8).upd u9 h6.size
    refine ER.nil (fun w10 h10 => ?_)
    refine AQ.then ?_
    refine EC.seq ?_
    -- region 5  ref.go:71
    refine EC.region (fun i => [1, 0, 1, 1, 1, 0, 1, 1, 1].getD i 0) [0, 1, 2, 3, 4, 5, 6, 7, 8] rfl ?_
    refine ER.sil rfl rfl rfl rfl (Sil.fieldAddr Try.underlying66 rfl inf3 rfl) ?_  -- 5.0: t22 := fieldAddr
    refine ER.ex rfl rfl rfl rfl (Exa.load flat3 rfl ((r9.ext h10).cell rfl)) ?_  -- 5.1: t23 := load
    refine ER.sil rfl rfl rfl rfl (Sil.eql rfl rfl) ?_  -- 5.2: t24 := binOp
    refine ER.sil rfl rfl rfl rfl (Sil.move rfl) ?_  -- 5.3: t25 := move
    refine ER.silG rfl rfl rfl rfl rfl rfl (fun hc => Sil.fieldAddr Try.underlying66 rfl inf9 rfl) ?_  -- 5.4: t26 := fieldAddr
    refine ER.exG rfl rfl rfl rfl rfl rfl (fun hc => Exa.load flat9 (congrArg some (sel_eq hc _)) ((r9.ext h10).cell rfl)) ?_  -- 5.5: t27 := load
    refine ER.silG rfl rfl rfl rfl rfl rfl (fun hc => Sil.move rfl) ?_  -- 5.6: t28 := move
    refine ER.silG rfl rfl rfl rfl rfl rfl (fun hc => Sil.seql (congrArg some (sel_eq hc _)) (congrArg some (sel_eq hc _))) ?_  -- 5.7: t29 := binOp
    refine ER.sil rfl rfl rfl rfl (Sil.pickAnd rfl rfl rfl) ?_  -- 5.8: t30 := pick
    refine ER.nil (fun w11 h11 => ?_)
    refine AQ.then ?_
    refine EC.cond rfl (fun hb1 => ?_) (fun hb1 => ?_)  -- cond 1: t30
    ·
      refine EC.seq ?_
      -- region 6  ref.go:72
      refine EC.region (fun i => [1, 0, 1, 1].getD i 0) [0, 1, 2, 3] rfl ?_
      refine ER.sil rfl rfl rfl rfl (Sil.fieldAddr Try.underlying66 rfl inf3 rfl) ?_  -- 6.0: t31 := fieldAddr
      refine ER.ex rfl rfl rfl rfl (Exa.load flat3 rfl ((r9.ext (h10.trans h11)).cell rfl)) ?_  -- 6.1: t32 := load
      refine ER.sil rfl rfl rfl rfl (Sil.assign rfl) ?_  -- 6.2: t4 := assign
      refine ER.sil rfl rfl rfl rfl (Sil.assign rfl) ?_  -- 6.3: t5 := assign
      refine ER.nil (fun w12 h12 => ?_)
      refine AQ.then ?_
      refine EC.ret ?_
      refine AQ.blockRet ?_
      refine AQ.thenRet ?_
      refine AQ.thenRet ?_
      refine AQ.blockRet ?_
      refine AQ.thenRet ?_
      refine AQ.ret2 Try.results10 rfl rfl ?_
      have hfs : findS inf s = some inf.marks[k] := find_at hlt hb1 hok
      exact ⟨by rw [findAt, findB, hfs]; rfl, (((((hE.trans h5).trans e9).trans h10).trans h11).trans h12)⟩
    ·
      refine EC.skip ?_
      refine AQ.blockNormal ?_
      refine AQ.then ?_
      -- region 3  ref.go:69
      refine EC.region (fun i => [1, 1, 1].getD i 0) [0, 1, 2] rfl ?_
      refine ER.sil rfl rfl rfl rfl (Sil.move rfl) ?_  -- 3.0: t14 := move
      refine ER.sil rfl rfl rfl rfl (Sil.add rfl rfl) ?_  -- 3.1: t15 := binOp
      refine ER.sil rfl rfl rfl rfl (Sil.assign rfl) ?_  -- 3.2: t6 := assign
      refine ER.nil (fun w13 h13 => ?_)
      refine AQ.round (k + 1) [1, 2, 6] (by rw [← wrap_succ hlt hm]; rfl) ⟨(((((hE.trans h5).trans e9).trans h10).trans h11).trans h13), (q2.ext ((((h5.trans e9).trans h10).trans h11).trans h13)), hlt, fun j h hj => ?_⟩ (by omega)
      rcases Nat.lt_or_eq_of_le (Nat.le_of_lt_succ hj) with hj | rfl
      · exact hok j h hj
      · exact hb1
  ·
    refine EC.exit ?_
    refine AQ.thenExit ?_
    refine AQ.thenExit ?_
    refine AQ.blockHit ?_
    refine AQ.then ?_
    refine EC.seq ?_
    -- region 7  ref.go:75
    refine EC.region (fun i => [1, 1].getD i 0) [0, 1] rfl ?_
    refine ER.sil rfl rfl rfl rfl (Sil.assign rfl) ?_  -- 7.0: t4 := assign
    refine ER.sil rfl rfl rfl rfl (Sil.assign rfl) ?_  -- 7.1: t5 := assign
    refine ER.nil (fun w14 h14 => ?_)
    refine AQ.then ?_
    refine EC.ret ?_
    refine AQ.ret2 Try.results10 rfl rfl ?_
    have hge : k = inf.marks.length := by have := of_decide_eq_false hb0; omega
    subst hge
    have hfs : findS inf s = none := find_no fun j h => hok j h h
    exact ⟨by rw [findAt, findB, hfs]; rfl, ((hE.trans h5).trans h14)⟩

end Go.Proofs.Ytcgapppamhffjaa
