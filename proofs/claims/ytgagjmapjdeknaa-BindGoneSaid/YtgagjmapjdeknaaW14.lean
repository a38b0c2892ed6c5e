/- Bind: the reference's Same, Closure. -/
import Derived.Test.YtgagjmapjdeknaaW13
namespace Go.Proofs.Ytgagjmapjdeknaa
open Go.RowKit Go.XK Go.BindLaw

structure CloV where
  i : Nat
  v : Value

-- linchpin/linchpinref31.Same: parameters ['[]int', '[]int'] (free 0), results [('ResultVar.tmp', 4)], 26 slots
set_option maxRecDepth 100000 in
theorem same_any (l r : List Int) (u v : Value) (w : World) (hl : Ints w u l) (hr : Ints w v r) :
    Calls Try.prog 12 [u, v].toArray w fun e w' => e = .returned (.bool (decide (l = r))) ∧ Ext w w' := by
  have hm := hl.max
  refine calls_of Try.func12 rfl Try.ntmps12 rfl ?_
  refine EC.seq ?_
  -- region 0  ref.go:119
  refine EC.region (fun i => [1].getD i 0) [0] rfl ?_
  refine ER.sil rfl rfl rfl rfl (Sil.assign rfl) ?_  -- 0.0: t4 := assign
  refine ER.nil (fun w1 h1 => ?_)
  refine AQ.then ?_
  refine EC.seq ?_
  refine EC.seq ?_
  -- region 1  ref.go:120
  refine EC.region (fun i => [1, 1, 1, 1, 1].getD i 0) [0, 1, 2, 3, 4] rfl ?_
  refine ER.sil rfl rfl rfl rfl (Sil.move rfl) ?_  -- 1.0: t6 := move
  refine ER.sil rfl rfl rfl rfl (Sil.lenR Try.underlying28 rfl (Ints.isS hl)) ?_  -- 1.1: t7 := call
  refine ER.sil rfl rfl rfl rfl (Sil.move rfl) ?_  -- 1.2: t8 := move
  refine ER.sil rfl rfl rfl rfl (Sil.lenR Try.underlying28 rfl (Ints.isS hr)) ?_  -- 1.3: t9 := call
  refine ER.sil rfl rfl rfl rfl (Sil.neq rfl rfl) ?_  -- 1.4: t10 := binOp
  refine ER.nil (fun w2 h2 => ?_)
  refine AQ.then ?_
  refine EC.cond rfl (fun hb0 => ?_) (fun hb0 => ?_)  -- cond 0: t10
  ·
    have hlen : l.length ≠ r.length := by simp at hb0; omega
    refine EC.seq ?_
    -- region 2  ref.go:121
    refine EC.region (fun i => [1].getD i 0) [0] rfl ?_
    refine ER.sil rfl rfl rfl rfl (Sil.assign rfl) ?_  -- 2.0: t4 := assign
    refine ER.nil (fun w3 h3 => ?_)
    refine AQ.then ?_
    refine EC.ret ?_
    refine AQ.thenRet ?_
    refine AQ.ret1 Try.results12 rfl ?_
    exact ⟨by rw [decide_eq_false (fun e => hlen (by rw [e]))], ((h1.trans h2).trans h3)⟩
  ·
    have hlen : l.length = r.length := by simp at hb0; omega
    refine EC.skip ?_
    refine AQ.then ?_
    refine EC.seq ?_
    refine EC.seq ?_
    -- region 3  ref.go:123
    refine EC.region (fun i => [1].getD i 0) [0] rfl ?_
    refine ER.sil rfl rfl rfl rfl (Sil.assign rfl) ?_  -- 3.0: t5 := assign
    refine ER.nil (fun w4 h4 => ?_)
    refine AQ.then ?_
    refine EC.block ?_
    refine EC.loop (σ := Nat) (fun k => [(0, u), (1, v), (5, .int .i64 (k : Int))]) (fun k wr => Ext w wr ∧ k ≤ l.length ∧ ∀ j (h : j < l.length), j < k → l[j] = r[j]'(hlen ▸ h)) (fun k => l.length - k) 0 [0, 1, 5] rfl ?_ (fun k wr hF => ?_)
    · exact ⟨((h1.trans h2).trans h4), Nat.zero_le _, fun j _ h => absurd h (Nat.not_lt_zero j)⟩
    obtain ⟨hE, hk, hok⟩ := hF
    refine EC.seq ?_
    refine EC.seq ?_
    -- region 4  ref.go:123
    refine EC.region (fun i => [1, 1, 1, 1].getD i 0) [0, 1, 2, 3] rfl ?_
    refine ER.sil rfl rfl rfl rfl (Sil.move rfl) ?_  -- 4.0: t11 := move
    refine ER.sil rfl rfl rfl rfl (Sil.move rfl) ?_  -- 4.1: t12 := move
    refine ER.sil rfl rfl rfl rfl (Sil.lenR Try.underlying28 rfl (Ints.isS hl)) ?_  -- 4.2: t13 := call
    refine ER.sil rfl rfl rfl rfl (Sil.lss rfl rfl) ?_  -- 4.3: t14 := binOp
    refine ER.nil (fun w5 h5 => ?_)
    refine AQ.then ?_
    refine EC.cond rfl (fun hb1 => ?_) (fun hb1 => ?_)  -- cond 1: t14
    ·
      have hlt : k < l.length := by have := of_decide_eq_true hb1; omega
      refine EC.skip ?_
      refine AQ.then ?_
      refine EC.seq ?_
      refine EC.block ?_
      refine EC.seq ?_
      -- region 6  ref.go:124
      refine EC.draw (fun i => [1, 1, 1, 0, 1, 1, 1, 0, 1].getD i 0) [0, 1, 2, 3, 4, 5, 6, 7, 8] (by kernel_rfl) (by kernel_rfl) ?_
      refine ER.sil rfl rfl rfl rfl (Sil.move rfl) ?_  -- 6.0: t17 := move
      refine ER.sil rfl rfl rfl rfl (Sil.move rfl) ?_  -- 6.1: t18 := move
      refine ER.sil rfl rfl rfl rfl (Sil.indexR Try.underlying28 inf3 rfl rfl (Ints.isE hl (by omega)) (by omega) (by omega)) ?_  -- 6.2: t19 := indexAddr
      refine ER.ex rfl rfl rfl rfl (Exa.load flat3 rfl (Ints.cell (hl.ext (hE.trans h5)) hlt)) ?_  -- 6.3: t20 := load
      refine ER.sil rfl rfl rfl rfl (Sil.move rfl) ?_  -- 6.4: t21 := move
      refine ER.sil rfl rfl rfl rfl (Sil.move rfl) ?_  -- 6.5: t22 := move
      refine ER.sil rfl rfl rfl rfl (Sil.indexR Try.underlying28 inf3 rfl rfl (Ints.isE hr (by omega)) (by omega) (by omega)) ?_  -- 6.6: t23 := indexAddr
      refine ER.ex rfl rfl rfl rfl (Exa.load flat3 rfl (Ints.cell (hr.ext (hE.trans h5)) (hlen ▸ hlt))) ?_  -- 6.7: t24 := load
      refine ER.sil rfl rfl rfl rfl (Sil.neq rfl rfl) ?_  -- 6.8: t25 := binOp
      refine ER.nil (fun w6 h6 => ?_)
      refine AQ.then ?_
      refine EC.cond rfl (fun hb2 => ?_) (fun hb2 => ?_)  -- cond 2: t25
      ·
        have hne : l[k] ≠ r[k]'(hlen ▸ hlt) := by simpa using hb2
        refine EC.seq ?_
        -- region 7  ref.go:125
        refine EC.region (fun i => [1].getD i 0) [0] rfl ?_
        refine ER.sil rfl rfl rfl rfl (Sil.assign rfl) ?_  -- 7.0: t4 := assign
        refine ER.nil (fun w7 h7 => ?_)
        refine AQ.then ?_
        refine EC.ret ?_
        refine AQ.blockRet ?_
        refine AQ.thenRet ?_
        refine AQ.thenRet ?_
        refine AQ.blockRet ?_
        refine AQ.thenRet ?_
        refine AQ.ret1 Try.results12 rfl ?_
        exact ⟨by rw [decide_eq_false (fun e => hne (by subst e; rfl))], (((hE.trans h5).trans h6).trans h7)⟩
      ·
        have heq : l[k] = r[k]'(hlen ▸ hlt) := by simpa using hb2
        refine EC.skip ?_
        refine AQ.blockNormal ?_
        refine AQ.then ?_
        -- region 5  ref.go:123
        refine EC.region (fun i => [1, 1, 1].getD i 0) [0, 1, 2] rfl ?_
        refine ER.sil rfl rfl rfl rfl (Sil.move rfl) ?_  -- 5.0: t15 := move
        refine ER.sil rfl rfl rfl rfl (Sil.add rfl rfl) ?_  -- 5.1: t16 := binOp
        refine ER.sil rfl rfl rfl rfl (Sil.assign rfl) ?_  -- 5.2: t5 := assign
        refine ER.nil (fun w8 h8 => ?_)
        refine AQ.round (k + 1) [0, 1, 5] (by rw [← wrap_succ hlt hm]; rfl) ⟨(((hE.trans h5).trans h6).trans h8), hlt, fun j h hj => ?_⟩ (by omega)
        rcases Nat.lt_or_eq_of_le (Nat.le_of_lt_succ hj) with hj | rfl
        · exact hok j h hj
        · exact heq
    ·
      refine EC.exit ?_
      refine AQ.thenExit ?_
      refine AQ.thenExit ?_
      refine AQ.blockHit ?_
      refine AQ.then ?_
      refine EC.seq ?_
      -- region 8  ref.go:128
      refine EC.region (fun i => [1].getD i 0) [0] rfl ?_
      refine ER.sil rfl rfl rfl rfl (Sil.assign rfl) ?_  -- 8.0: t4 := assign
      refine ER.nil (fun w9 h9 => ?_)
      refine AQ.then ?_
      refine EC.ret ?_
      refine AQ.ret1 Try.results12 rfl ?_
      have hge : k = l.length := by have := of_decide_eq_false hb1; omega
      subst hge
      exact ⟨by rw [decide_eq_true (List.ext_getElem hlen fun j h1 h2 => hok j h1 h1)], ((hE.trans h5).trans h9)⟩

-- linchpin/linchpinref31.Closure: parameters ['[]api.Module', 'int'] (free 0), results [('ResultVar.tmp', 4)], 70 slots
set_option maxRecDepth 100000 in
theorem closR_any (ms : List Mo) (v : Value) (k : Int) (w : World) (hms : Mods w v ms) (hm8 : ms.length ≤ 1000) :
    Calls Try.prog 25 [v, .int .i64 k].toArray w fun e w' => ∃ v', e = .returned v' ∧ Ext w w' ∧ Ints w' v' (cloL ms k) := by
  have hm := hms.max
  refine calls_of Try.func25 rfl Try.ntmps25 rfl ?_
  refine EC.seq ?_
  -- region 0  ref.go:20
  refine EC.region (fun i => [1].getD i 0) [0] rfl ?_
  refine ER.sil rfl rfl rfl rfl (Sil.assign rfl) ?_  -- 0.0: t4 := assign
  refine ER.nil (fun w1 h1 => ?_)
  refine AQ.then ?_
  refine EC.seq ?_
  refine EC.seq ?_
  -- region 1  ref.go:21
  refine EC.region (fun i => [1, 1, 1, 1, 1, 1, 1, 1].getD i 0) [0, 1, 2, 3, 4, 5, 6, 7] rfl ?_
  refine ER.sil rfl rfl rfl rfl (Sil.move rfl) ?_  -- 1.0: t9 := move
  refine ER.sil rfl rfl rfl rfl (Sil.lss rfl rfl) ?_  -- 1.1: t10 := binOp
  refine ER.sil rfl rfl rfl rfl (Sil.move rfl) ?_  -- 1.2: t11 := move
  refine ER.silG rfl rfl rfl rfl rfl rfl (fun hc => Sil.move rfl) ?_  -- 1.3: t12 := move
  refine ER.silG rfl rfl rfl rfl rfl rfl (fun hc => Sil.move rfl) ?_  -- 1.4: t13 := move
  refine ER.silG rfl rfl rfl rfl rfl rfl (fun hc => Sil.lenR Try.underlying22 (congrArg some (sel_eq hc _)) (Mods.isS hms)) ?_  -- 1.5: t14 := call
  refine ER.silG rfl rfl rfl rfl rfl rfl (fun hc => Sil.geq (congrArg some (sel_eq hc _)) (congrArg some (sel_eq hc _))) ?_  -- 1.6: t15 := binOp
  refine ER.sil rfl rfl rfl rfl (Sil.pickOr rfl rfl rfl) ?_  -- 1.7: t16 := pick
  refine ER.nil (fun w2 h2 => ?_)
  refine AQ.then ?_
  refine EC.cond rfl (fun hb0 => ?_) (fun hb0 => ?_)  -- cond 0: t16
  ·
    have hn : ¬ InR ms k := by unfold InR; simp at hb0; omega
    refine EC.seq ?_
    -- region 2  ref.go:22
    refine EC.region (fun i => [1].getD i 0) [0] rfl ?_
    refine ER.sil rfl rfl rfl rfl (Sil.assign rfl) ?_  -- 2.0: t4 := assign
    refine ER.nil (fun w3 h3 => ?_)
    refine AQ.then ?_
    refine EC.ret ?_
    refine AQ.thenRet ?_
    refine AQ.ret1 Try.results25 rfl ?_
    exact ⟨_, rfl, ((h1.trans h2).trans h3), by rw [cloL, if_neg hn]; exact Ints.nil _⟩
  ·
    have hk : InR ms k := by unfold InR; simp at hb0; omega
    refine EC.skip ?_
    refine AQ.then ?_
    refine EC.seq ?_
    -- region 3  ref.go:24
    refine EC.region (fun i => [1, 2, 1].getD i 0) [0, 1, 2] rfl ?_
    refine ER.sil rfl rfl rfl rfl (Sil.move rfl) ?_  -- 3.0: t17 := move
    have n0 := (h1.trans h2).size
    refine ER.st rfl rfl rfl rfl (fun w4 h4 => Stp.buildAll [_] Try.underlying28 inf3 rfl rfl rfl rfl rfl rfl (fun w5 h5 s5 r5 => ⟨h5, ?_⟩))  -- 3.1: t18 := buildSlice
    have n1 := h4.size
    refine ER.sil rfl rfl rfl rfl (Sil.assign rfl) ?_  -- 3.2: t5 := assign
    refine ER.nil (fun w6 h6 => ?_)
    refine AQ.then ?_
    refine EC.seq ?_
    refine EC.seq ?_
    -- region 4  ref.go:25
    refine EC.region (fun i => [1].getD i 0) [0] rfl ?_
    refine ER.sil rfl rfl rfl rfl (Sil.assign rfl) ?_  -- 4.0: t6 := assign
    refine ER.nil (fun w7 h7 => ?_)
    refine AQ.then ?_
    refine EC.block ?_
    refine EC.loop (σ := CloV) (fun q => [(0, v), (5, q.v), (6, .int .i64 (q.i : Int))]) (fun q wr => Ext w wr ∧ q.i ≤ (cloTo ms k q.i).length ∧ OwnQ wr w.heap.size 3 1 q.v (cloTo ms k q.i).length ((cloTo ms k q.i).map (Value.int .i64))) (fun q => ms.length + 1 - q.i) ⟨0, .slice (some ⟨w4.heap.size, 0, none⟩) 1 1⟩ [0, 5, 6] rfl ?_ (fun q wr hF => ?_)
    · exact ⟨(((((h1.trans h2).trans h4).trans h5).trans h6).trans h7), Nat.zero_le _, OwnQ.of_own (own_of_row (vs := [.int .i64 k]) (r5.ext (h6.trans h7)) (by omega) rfl (by decide))⟩
    obtain ⟨hE, hi, ho⟩ := hF
    have hlen := cloTo_len hk q.i
    refine EC.seq ?_
    refine EC.seq ?_
    -- region 5  ref.go:25
    refine EC.region (fun i => [1, 1, 1, 1].getD i 0) [0, 1, 2, 3] rfl ?_
    refine ER.sil rfl rfl rfl rfl (Sil.move rfl) ?_  -- 5.0: t19 := move
    refine ER.sil rfl rfl rfl rfl (Sil.move rfl) ?_  -- 5.1: t20 := move
    refine ER.sil rfl rfl rfl rfl (Sil.lenR Try.underlying28 rfl (Reads.isS ho.reads)) ?_  -- 5.2: t21 := call
    refine ER.sil rfl rfl rfl rfl (Sil.lss rfl rfl) ?_  -- 5.3: t22 := binOp
    refine ER.nil (fun w8 h8 => ?_)
    refine AQ.then ?_
    refine EC.cond rfl (fun hb1 => ?_) (fun hb1 => ?_)  -- cond 1: t22
    ·
      have hlt : q.i < (cloTo ms k q.i).length := by have := of_decide_eq_true hb1; omega
      have hin : InR ms (cloTo ms k q.i)[q.i] := cloTo_in hk q.i _ (List.getElem_mem hlt)
      obtain ⟨nv, hnv, hns⟩ := Mods.needs hms hin
      have hnm := hns.max
      refine EC.skip ?_
      refine AQ.then ?_
      refine EC.seq ?_
      refine EC.block ?_
      refine EC.seq ?_
      -- region 7  ref.go:26
      refine EC.region (fun i => [1, 1, 1, 1, 0, 1, 1, 0, 1].getD i 0) [0, 1, 2, 3, 4, 5, 6, 7, 8] rfl ?_
      refine ER.sil rfl rfl rfl rfl (Sil.move rfl) ?_  -- 7.0: t25 := move
      refine ER.sil rfl rfl rfl rfl (Sil.move rfl) ?_  -- 7.1: t26 := move
      refine ER.sil rfl rfl rfl rfl (Sil.move rfl) ?_  -- 7.2: t27 := move
      refine ER.sil rfl rfl rfl rfl (Sil.indexR Try.underlying28 inf3 rfl rfl (Reads.isE ho.reads (by omega)) (by omega) (by omega)) ?_  -- 7.3: t28 := indexAddr
      refine ER.ex rfl rfl rfl rfl (Exa.load flat3 rfl (Ints.cell (Ints.of_q (ho.ext h8)) hlt)) ?_  -- 7.4: t29 := load
      refine ER.sil rfl rfl rfl rfl (Sil.indexR Try.underlying22 inf56 rfl rfl (Mods.isE hms (by have := hin.1; have := hin.2; omega)) (hin.1) (hin.2)) ?_  -- 7.5: t30 := indexAddr
      refine ER.sil rfl rfl rfl rfl (Sil.fieldAddr Try.underlying56 rfl inf28 rfl) ?_  -- 7.6: t31 := fieldAddr
      refine ER.ex rfl rfl rfl rfl (Exa.load flat28 rfl (cell_ext (hE.trans h8) hnv)) ?_  -- 7.7: t32 := load
      refine ER.sil rfl rfl rfl rfl (Sil.assign rfl) ?_  -- 7.8: t7 := assign
      refine ER.nil (fun w9 h9 => ?_)
      refine AQ.then ?_
      refine EC.seq ?_
      -- region 8  ref.go:27
      refine EC.region (fun i => [1].getD i 0) [0] rfl ?_
      refine ER.sil rfl rfl rfl rfl (Sil.assign rfl) ?_  -- 8.0: t8 := assign
      refine ER.nil (fun w10 h10 => ?_)
      refine AQ.then ?_
      refine EC.block ?_
      refine EC.loop (σ := CloV) (fun r => [(0, v), (5, r.v), (6, .int .i64 (q.i : Int)), (7, nv), (8, .int .i64 (r.i : Int))]) (fun r wr => Ext w wr ∧ r.i ≤ (moAt ms (cloTo ms k q.i)[q.i]).needs.length ∧ OwnQ wr w.heap.size 3 1 r.v (addN ms.length (cloTo ms k q.i) ((moAt ms (cloTo ms k q.i)[q.i]).needs.take r.i)).length ((addN ms.length (cloTo ms k q.i) ((moAt ms (cloTo ms k q.i)[q.i]).needs.take r.i)).map (Value.int .i64))) (fun r => (moAt ms (cloTo ms k q.i)[q.i]).needs.length - r.i) ⟨0, q.v⟩ [0, 5, 6, 7, 8] rfl ?_ (fun r wr hF => ?_)
      · exact ⟨(((hE.trans h8).trans h9).trans h10), Nat.zero_le _, (ho.ext ((h8.trans h9).trans h10))⟩
      obtain ⟨hE, hj, ho⟩ := hF
      have hlen2 := addN_len hk q.i ((moAt ms (cloTo ms k q.i)[q.i]).needs.take r.i)
      have hpre := (addN_pre ms.length ((moAt ms (cloTo ms k q.i)[q.i]).needs.take r.i) (cloTo ms k q.i)).length_le
      refine EC.seq ?_
      refine EC.seq ?_
      -- region 9  ref.go:27
      refine EC.region (fun i => [1, 1, 1, 1].getD i 0) [0, 1, 2, 3] rfl ?_
      refine ER.sil rfl rfl rfl rfl (Sil.move rfl) ?_  -- 9.0: t33 := move
      refine ER.sil rfl rfl rfl rfl (Sil.move rfl) ?_  -- 9.1: t34 := move
      refine ER.sil rfl rfl rfl rfl (Sil.lenR Try.underlying28 rfl (Ints.isS hns)) ?_  -- 9.2: t35 := call
      refine ER.sil rfl rfl rfl rfl (Sil.lss rfl rfl) ?_  -- 9.3: t36 := binOp
      refine ER.nil (fun w11 h11 => ?_)
      refine AQ.then ?_
      refine EC.cond rfl (fun hb2 => ?_) (fun hb2 => ?_)  -- cond 2: t36
      ·
        have hltj : r.i < (moAt ms (cloTo ms k q.i)[q.i]).needs.length := by have := of_decide_eq_true hb2; omega
        refine EC.skip ?_
        refine AQ.then ?_
        refine EC.seq ?_
        refine EC.block ?_
        refine EC.seq ?_
        -- region 11  ref.go:28
        refine EC.region (fun i => [1, 1, 1, 0, 1, 1, 1, 1, 1, 0, 1, 1, 1, 1, 1, 1, 1, 1, 1, 0, 0, 1, 1].getD i 0) [0, 1, 2, 3, 4, 5, 6, 7, 8, 9, 10, 11, 12, 13, 14, 15, 16, 17, 18, 19, 20, 21, 22] rfl ?_
        refine ER.sil rfl rfl rfl rfl (Sil.move rfl) ?_  -- 11.0: t39 := move
        refine ER.sil rfl rfl rfl rfl (Sil.move rfl) ?_  -- 11.1: t40 := move
        refine ER.sil rfl rfl rfl rfl (Sil.indexR Try.underlying28 inf3 rfl rfl (Ints.isE hns (by omega)) (by omega) (by omega)) ?_  -- 11.2: t41 := indexAddr
        refine ER.ex rfl rfl rfl rfl (Exa.load flat3 rfl (Ints.cell (hns.ext (hE.trans h11)) hltj)) ?_  -- 11.3: t42 := load
        refine ER.sil rfl rfl rfl rfl (Sil.geq rfl rfl) ?_  -- 11.4: t43 := binOp
        refine ER.sil rfl rfl rfl rfl (Sil.move rfl) ?_  -- 11.5: t44 := move
        refine ER.silG rfl rfl rfl rfl rfl rfl (fun hc => Sil.move rfl) ?_  -- 11.6: t45 := move
        refine ER.silG rfl rfl rfl rfl rfl rfl (fun hc => Sil.move rfl) ?_  -- 11.7: t46 := move
        refine ER.silG rfl rfl rfl rfl rfl rfl (fun hc => Sil.indexR Try.underlying28 inf3 (congrArg some (sel_eq hc _)) (congrArg some (sel_eq hc _)) (Ints.isE hns (by omega)) (by omega) (by omega)) ?_  -- 11.8: t47 := indexAddr
        refine ER.exG rfl rfl rfl rfl rfl rfl (fun hc => Exa.load flat3 (congrArg some (sel_eq hc _)) (Ints.cell (hns.ext (hE.trans h11)) hltj)) ?_  -- 11.9: t48 := load
        refine ER.silG rfl rfl rfl rfl rfl rfl (fun hc => Sil.move rfl) ?_  -- 11.10: t49 := move
        refine ER.silG rfl rfl rfl rfl rfl rfl (fun hc => Sil.lenR Try.underlying22 (congrArg some (sel_eq hc _)) (Mods.isS hms)) ?_  -- 11.11: t50 := call
        refine ER.silG rfl rfl rfl rfl rfl rfl (fun hc => Sil.lss (congrArg some (sel_eq hc _)) (congrArg some (sel_eq hc _))) ?_  -- 11.12: t51 := binOp
        refine ER.sil rfl rfl rfl rfl (Sil.pickAnd rfl rfl rfl) ?_  -- 11.13: t52 := pick
        refine ER.sil rfl rfl rfl rfl (Sil.move rfl) ?_  -- 11.14: t53 := move
        refine ER.silG rfl rfl rfl rfl rfl rfl (fun hc => Sil.move rfl) ?_  -- 11.15: t54 := move
        refine ER.silG rfl rfl rfl rfl rfl rfl (fun hc => Sil.move rfl) ?_  -- 11.16: t55 := move
        refine ER.silG rfl rfl rfl rfl rfl rfl (fun hc => Sil.move rfl) ?_  -- 11.17: t56 := move
        refine ER.silG rfl rfl rfl rfl rfl rfl (fun hc => Sil.indexR Try.underlying28 inf3 (congrArg some (sel_eq hc _)) (congrArg some (sel_eq hc _)) (Ints.isE hns (by omega)) (by omega) (by omega)) ?_  -- 11.18: t57 := indexAddr
        refine ER.exG rfl rfl rfl rfl rfl rfl (fun hc => Exa.load flat3 (congrArg some (sel_eq hc _)) (Ints.cell (hns.ext (hE.trans h11)) hltj)) ?_  -- 11.19: t58 := load
        refine ER.exG rfl rfl rfl rfl rfl rfl (fun hc => Exa.call fok26 rfl (evs_cons (congrArg some (sel_eq hc _)) (evs_cons (congrArg some (sel_eq hc _)) evs_nil)) (fun wx hx => (has31_any (addN ms.length (cloTo ms k q.i) ((moAt ms (cloTo ms k q.i)[q.i]).needs.take r.i)) _ (moAt ms (cloTo ms k q.i)[q.i]).needs[r.i] wx ((Ints.of_q (ho.ext h11)).ext hx)))) ?_  -- 11.20: t59 := call
        refine ER.silG rfl rfl rfl rfl rfl rfl (fun hc => Sil.not (congrArg some (sel_eq hc _))) ?_  -- 11.21: t60 := unOp
        refine ER.sil rfl rfl rfl rfl (Sil.pickAnd rfl rfl rfl) ?_  -- 11.22: t61 := pick
        refine ER.nil (fun w12 h12 => ?_)
        refine AQ.then ?_
        refine EC.cond rfl (fun hb3 => ?_) (fun hb3 => ?_)  -- cond 3: t61
        ·
          have hadd : addN1 ms.length (addN ms.length (cloTo ms k q.i) ((moAt ms (cloTo ms k q.i)[q.i]).needs.take r.i)) (moAt ms (cloTo ms k q.i)[q.i]).needs[r.i] = (addN ms.length (cloTo ms k q.i) ((moAt ms (cloTo ms k q.i)[q.i]).needs.take r.i)) ++ [(moAt ms (cloTo ms k q.i)[q.i]).needs[r.i]] := by unfold addN1; rw [if_pos (by simpa [hasI] using hb3)]
          -- region 12  ref.go:29
          refine EC.region (fun i => [1, 1, 1, 1, 0, 2, 3, 1].getD i 0) [0, 1, 2, 3, 4, 5, 6, 7] rfl ?_
          refine ER.sil rfl rfl rfl rfl (Sil.move rfl) ?_  -- 12.0: t62 := move
          refine ER.sil rfl rfl rfl rfl (Sil.move rfl) ?_  -- 12.1: t63 := move
          refine ER.sil rfl rfl rfl rfl (Sil.move rfl) ?_  -- 12.2: t64 := move
          refine ER.sil rfl rfl rfl rfl (Sil.indexR Try.underlying28 inf3 rfl rfl (Ints.isE hns (by omega)) (by omega) (by omega)) ?_  -- 12.3: t65 := indexAddr
          refine ER.ex rfl rfl rfl rfl (Exa.load flat3 rfl (Ints.cell (hns.ext ((hE.trans h11).trans h12)) hltj)) ?_  -- 12.4: t66 := load
          refine ER.st rfl rfl rfl rfl (fun w13 h13 => Stp.buildAll [_] Try.underlying28 inf3 rfl rfl rfl rfl rfl rfl (fun w14 h14 s14 r14 => ⟨h14, ?_⟩))  -- 12.5: t67 := buildSlice
          --  -- 12.6: t68 := call
          refine ER.bar rfl rfl rfl rfl (fun w15 h15 => ?_)
          have hoa := (ho.ext (((h11.trans h12).trans h13).trans h14)).ext h15
          refine Stp.appendQ Try.underlying28 inf3 rfl rfl rfl hoa ((((((hE.trans h11).trans h12).trans h13).trans h14).trans h15).size) (Reads.of_row (r14.ext h15) rfl (by decide)) (ints_one [_]) (by omega) (by unfold maxLen; omega) (fun vq w16 ob g16 nb => ?_)
          have eb := (((((hE.trans h11).trans h12).trans h13).trans h14).trans h15).grown g16 (fun k hk => (hoa.lt k hk).1)
          refine ER.sil rfl rfl rfl rfl (Sil.assign rfl) ?_  -- 12.7: t5 := assign
          refine ER.nil (fun w17 h17 => ?_)
          refine AQ.blockNormal ?_
          refine AQ.then ?_
          -- region 10  ref.go:27
          refine EC.region (fun i => [1, 1, 1].getD i 0) [0, 1, 2] rfl ?_
          refine ER.sil rfl rfl rfl rfl (Sil.move rfl) ?_  -- 10.0: t37 := move
          refine ER.sil rfl rfl rfl rfl (Sil.add rfl rfl) ?_  -- 10.1: t38 := binOp
          refine ER.sil rfl rfl rfl rfl (Sil.assign rfl) ?_  -- 10.2: t8 := assign
          refine ER.nil (fun w18 h18 => ?_)
          refine AQ.round ⟨r.i + 1, vq⟩ [0, 5, 6, 7, 8] (by rw [← wrap_succ hltj hnm]; rfl) ⟨((eb.trans h17).trans h18), hltj, ?_⟩ (by simp only; omega)
          simp only [addN_take _ _ _ hltj, hadd, List.length_append, List.map_append]
          exact (ob.ext (h17.trans h18))
        ·
          have hadd : addN1 ms.length (addN ms.length (cloTo ms k q.i) ((moAt ms (cloTo ms k q.i)[q.i]).needs.take r.i)) (moAt ms (cloTo ms k q.i)[q.i]).needs[r.i] = (addN ms.length (cloTo ms k q.i) ((moAt ms (cloTo ms k q.i)[q.i]).needs.take r.i)) := by unfold addN1; rw [if_neg (by simpa [hasI] using hb3)]
          refine EC.skip ?_
          refine AQ.blockNormal ?_
          refine AQ.then ?_
          -- region 10  ref.go:27
          refine EC.region (fun i => [1, 1, 1].getD i 0) [0, 1, 2] rfl ?_
          refine ER.sil rfl rfl rfl rfl (Sil.move rfl) ?_  -- 10.0: t37 := move
          refine ER.sil rfl rfl rfl rfl (Sil.add rfl rfl) ?_  -- 10.1: t38 := binOp
          refine ER.sil rfl rfl rfl rfl (Sil.assign rfl) ?_  -- 10.2: t8 := assign
          refine ER.nil (fun w19 h19 => ?_)
          refine AQ.round ⟨r.i + 1, r.v⟩ [0, 5, 6, 7, 8] (by rw [← wrap_succ hltj hnm]; rfl) ⟨(((hE.trans h11).trans h12).trans h19), hltj, ?_⟩ (by simp only; omega)
          simp only [addN_take _ _ _ hltj, hadd]
          exact (ho.ext ((h11.trans h12).trans h19))
      ·
        refine EC.exit ?_
        refine AQ.thenExit ?_
        refine AQ.thenExit ?_
        refine AQ.blockHit ?_
        refine AQ.blockNormal ?_
        refine AQ.then ?_
        -- region 6  ref.go:25
        refine EC.region (fun i => [1, 1, 1].getD i 0) [0, 1, 2] rfl ?_
        refine ER.sil rfl rfl rfl rfl (Sil.move rfl) ?_  -- 6.0: t23 := move
        refine ER.sil rfl rfl rfl rfl (Sil.add rfl rfl) ?_  -- 6.1: t24 := binOp
        refine ER.sil rfl rfl rfl rfl (Sil.assign rfl) ?_  -- 6.2: t6 := assign
        refine ER.nil (fun w20 h20 => ?_)
        have hge : r.i = (moAt ms (cloTo ms k q.i)[q.i]).needs.length := by have := of_decide_eq_false hb2; omega
        have hst : (addN ms.length (cloTo ms k q.i) ((moAt ms (cloTo ms k q.i)[q.i]).needs.take r.i)) = cloTo ms k (q.i + 1) := by rw [cloTo_next hlt, hge, List.take_length]
        rw [hst] at ho hpre
        exact AQ.round ⟨q.i + 1, r.v⟩ [0, 5, 6] (by rw [← wrap_succ hlt (by unfold maxLen; omega)]; rfl) ⟨((hE.trans h11).trans h20), by simp only; omega, (ho.ext (h11.trans h20))⟩ (by simp only; omega)
    ·
      refine EC.exit ?_
      refine AQ.thenExit ?_
      refine AQ.thenExit ?_
      refine AQ.blockHit ?_
      refine AQ.then ?_
      refine EC.seq ?_
      -- region 13  ref.go:33
      refine EC.region (fun i => [1, 1].getD i 0) [0, 1] rfl ?_
      refine ER.sil rfl rfl rfl rfl (Sil.move rfl) ?_  -- 13.0: t69 := move
      refine ER.sil rfl rfl rfl rfl (Sil.assign rfl) ?_  -- 13.1: t4 := assign
      refine ER.nil (fun w21 h21 => ?_)
      refine AQ.then ?_
      refine EC.ret ?_
      refine AQ.ret1 Try.results25 rfl ?_
      have hge : (cloTo ms k q.i).length ≤ q.i := by have := of_decide_eq_false hb1; omega
      exact ⟨_, rfl, ((hE.trans h8).trans h21), by rw [cloL_of hk hge hi]; exact Ints.of_q ((ho.ext (h8.trans h21)))⟩

end Go.Proofs.Ytgagjmapjdeknaa
