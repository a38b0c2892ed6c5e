/- Bind: the reference finds a string, a declaration. -/
import Derived.Test.YtgagjmapjdeknaaBase
namespace Go.Proofs.Ytgagjmapjdeknaa
open Go.RowKit Go.XK Go.BindLaw

-- linchpin/linchpinref08.has: parameters ['[]string', 'string'] (free 0), results [('ResultVar.tmp', 4)], 18 slots
set_option maxRecDepth 100000 in
theorem has08_any (l : List ByteArray) (v : Value) (s : ByteArray) (w : World) (hl : Strs w v l) :
    Calls Try.prog 34 [v, .string s].toArray w fun e w' => e = .returned (.bool (hasS l s)) ∧ Ext w w' := by
  have hm := hl.max
  refine calls_of Try.func34 rfl Try.ntmps34 rfl ?_
  refine EC.seq ?_
  -- region 0  ref.go:27
  refine EC.region (fun i => [1].getD i 0) [0] rfl ?_
  refine ER.sil rfl rfl rfl rfl (Sil.assign rfl) ?_  -- 0.0: t4 := assign
  refine ER.nil (fun w1 h1 => ?_)
  refine AQ.then ?_
  refine EC.seq ?_
  refine EC.seq ?_
  -- region 1  ref.go:28
  refine EC.region (fun i => [1].getD i 0) [0] rfl ?_
  refine ER.sil rfl rfl rfl rfl (Sil.assign rfl) ?_  -- 1.0: t5 := assign
  refine ER.nil (fun w2 h2 => ?_)
  refine AQ.then ?_
  refine EC.block ?_
  refine EC.loop (σ := Nat) (fun k => [(0, v), (1, .string s), (5, .int .i64 (k : Int))]) (fun k wr => Ext w wr ∧ k ≤ l.length ∧ ∀ j (h : j < l.length), j < k → l[j] ≠ s) (fun k => l.length - k) 0 [0, 1, 5] rfl ?_ (fun k wr hF => ?_)
  · exact ⟨(h1.trans h2), Nat.zero_le _, fun j _ h => absurd h (Nat.not_lt_zero j)⟩
  obtain ⟨hE, hk, hok⟩ := hF
  refine EC.seq ?_
  refine EC.seq ?_
  -- region 2  ref.go:28
  refine EC.region (fun i => [1, 1, 1, 1].getD i 0) [0, 1, 2, 3] rfl ?_
  refine ER.sil rfl rfl rfl rfl (Sil.move rfl) ?_  -- 2.0: t6 := move
  refine ER.sil rfl rfl rfl rfl (Sil.move rfl) ?_  -- 2.1: t7 := move
  refine ER.sil rfl rfl rfl rfl (Sil.lenR Try.underlying42 rfl (Strs.isS hl)) ?_  -- 2.2: t8 := call
  refine ER.sil rfl rfl rfl rfl (Sil.lss rfl rfl) ?_  -- 2.3: t9 := binOp
  refine ER.nil (fun w3 h3 => ?_)
  refine AQ.then ?_
  refine EC.cond rfl (fun hb0 => ?_) (fun hb0 => ?_)  -- cond 0: t9
  ·
    have hlt : k < l.length := by have := of_decide_eq_true hb0; omega
    refine EC.skip ?_
    refine AQ.then ?_
    refine EC.seq ?_
    refine EC.block ?_
    refine EC.seq ?_
    -- region 4  ref.go:29
    refine EC.region (fun i => [1, 1, 1, 0, 1, 1].getD i 0) [0, 1, 2, 3, 4, 5] rfl ?_
    refine ER.sil rfl rfl rfl rfl (Sil.move rfl) ?_  -- 4.0: t12 := move
    refine ER.sil rfl rfl rfl rfl (Sil.move rfl) ?_  -- 4.1: t13 := move
    refine ER.sil rfl rfl rfl rfl (Sil.indexR Try.underlying42 inf9 rfl rfl (Strs.isE (hl.ext (hE.trans h3)) (by omega)) (by omega) (by omega)) ?_  -- 4.2: t14 := indexAddr
    refine ER.ex rfl rfl rfl rfl (Exa.load flat9 rfl (Strs.cell (hl.ext (hE.trans h3)) hlt)) ?_  -- 4.3: t15 := load
    refine ER.sil rfl rfl rfl rfl (Sil.move rfl) ?_  -- 4.4: t16 := move
    refine ER.sil rfl rfl rfl rfl (Sil.seql rfl rfl) ?_  -- 4.5: t17 := binOp
    refine ER.nil (fun w4 h4 => ?_)
    refine AQ.then ?_
    refine EC.cond rfl (fun hb1 => ?_) (fun hb1 => ?_)  -- cond 1: t17
    ·
      refine EC.seq ?_
      -- region 5  ref.go:30
      refine EC.region (fun i => [1].getD i 0) [0] rfl ?_
      refine ER.sil rfl rfl rfl rfl (Sil.assign rfl) ?_  -- 5.0: t4 := assign
      refine ER.nil (fun w5 h5 => ?_)
      refine AQ.then ?_
      refine EC.ret ?_
      refine AQ.blockRet ?_
      refine AQ.thenRet ?_
      refine AQ.thenRet ?_
      refine AQ.blockRet ?_
      refine AQ.thenRet ?_
      refine AQ.ret1 Try.results34 rfl ?_
      exact ⟨by rw [hasS_iff.2 (of_decide_eq_true hb1 ▸ List.getElem_mem hlt)], (((hE.trans h3).trans h4).trans h5)⟩
    ·
      refine EC.skip ?_
      refine AQ.blockNormal ?_
      refine AQ.then ?_
      -- region 3  ref.go:28
      refine EC.region (fun i => [1, 1, 1].getD i 0) [0, 1, 2] rfl ?_
      refine ER.sil rfl rfl rfl rfl (Sil.move rfl) ?_  -- 3.0: t10 := move
      refine ER.sil rfl rfl rfl rfl (Sil.add rfl rfl) ?_  -- 3.1: t11 := binOp
      refine ER.sil rfl rfl rfl rfl (Sil.assign rfl) ?_  -- 3.2: t5 := assign
      refine ER.nil (fun w6 h6 => ?_)
      refine AQ.round (k + 1) [0, 1, 5] (by rw [← wrap_succ hlt hm]; rfl) ⟨(((hE.trans h3).trans h4).trans h6), hlt, fun j h hj => ?_⟩ (by omega)
      rcases Nat.lt_or_eq_of_le (Nat.le_of_lt_succ hj) with hj | rfl
      · exact hok j h hj
      · exact of_decide_eq_false hb1
  ·
    refine EC.exit ?_
    refine AQ.thenExit ?_
    refine AQ.thenExit ?_
    refine AQ.blockHit ?_
    refine AQ.then ?_
    refine EC.seq ?_
    -- region 6  ref.go:33
    refine EC.region (fun i => [1].getD i 0) [0] rfl ?_
    refine ER.sil rfl rfl rfl rfl (Sil.assign rfl) ?_  -- 6.0: t4 := assign
    refine ER.nil (fun w7 h7 => ?_)
    refine AQ.then ?_
    refine EC.ret ?_
    refine AQ.ret1 Try.results34 rfl ?_
    have hge : k = l.length := by have := of_decide_eq_false hb0; omega
    subst hge
    have hn : hasS l s = false := by
      cases hh : hasS l s with
      | false => rfl
      | true =>
        obtain ⟨j, hj, he⟩ := List.getElem_of_mem (hasS_iff.1 hh)
        exact absurd he (hok j hj hj)
    exact ⟨by rw [hn], ((hE.trans h3).trans h7)⟩

-- linchpin/linchpinref08.find: parameters ['[]api.VersionDef', 'string'] (free 0), results [('ResultVar.tmp', 4)], 20 slots
set_option maxRecDepth 100000 in
theorem find08_any (l : List Vd) (v : Value) (s : ByteArray) (w : World) (hl : Vds w v l) :
    Calls Try.prog 39 [v, .string s].toArray w fun e w' => e = .returned (.int .i64 (findI l s)) ∧ Ext w w' := by
  have hm := hl.max
  refine calls_of Try.func39 rfl Try.ntmps39 rfl ?_
  refine EC.seq ?_
  -- region 0  ref.go:17
  refine EC.region (fun i => [1].getD i 0) [0] rfl ?_
  refine ER.sil rfl rfl rfl rfl (Sil.assign rfl) ?_  -- 0.0: t4 := assign
  refine ER.nil (fun w1 h1 => ?_)
  refine AQ.then ?_
  refine EC.seq ?_
  refine EC.seq ?_
  -- region 1  ref.go:18
  refine EC.region (fun i => [1].getD i 0) [0] rfl ?_
  refine ER.sil rfl rfl rfl rfl (Sil.assign rfl) ?_  -- 1.0: t5 := assign
  refine ER.nil (fun w2 h2 => ?_)
  refine AQ.then ?_
  refine EC.block ?_
  refine EC.loop (σ := Nat) (fun k => [(0, v), (1, .string s), (5, .int .i64 (k : Int))]) (fun k wr => Ext w wr ∧ k ≤ l.length ∧ ∀ j (h : j < l.length), j < k → l[j].name ≠ s) (fun k => l.length - k) 0 [0, 1, 5] rfl ?_ (fun k wr hF => ?_)
  · exact ⟨(h1.trans h2), Nat.zero_le _, fun j _ h => absurd h (Nat.not_lt_zero j)⟩
  obtain ⟨hE, hk, hok⟩ := hF
  refine EC.seq ?_
  refine EC.seq ?_
  -- region 2  ref.go:18
  refine EC.region (fun i => [1, 1, 1, 1].getD i 0) [0, 1, 2, 3] rfl ?_
  refine ER.sil rfl rfl rfl rfl (Sil.move rfl) ?_  -- 2.0: t6 := move
  refine ER.sil rfl rfl rfl rfl (Sil.move rfl) ?_  -- 2.1: t7 := move
  refine ER.sil rfl rfl rfl rfl (Sil.lenR Try.underlying43 rfl (Vds.isS hl)) ?_  -- 2.2: t8 := call
  refine ER.sil rfl rfl rfl rfl (Sil.lss rfl rfl) ?_  -- 2.3: t9 := binOp
  refine ER.nil (fun w3 h3 => ?_)
  refine AQ.then ?_
  refine EC.cond rfl (fun hb0 => ?_) (fun hb0 => ?_)  -- cond 0: t9
  ·
    have hlt : k < l.length := by have := of_decide_eq_true hb0; omega
    refine EC.skip ?_
    refine AQ.then ?_
    refine EC.seq ?_
    refine EC.block ?_
    refine EC.seq ?_
    -- region 4  ref.go:19
    refine EC.region (fun i => [1, 1, 1, 1, 0, 1, 1].getD i 0) [0, 1, 2, 3, 4, 5, 6] rfl ?_
    refine ER.sil rfl rfl rfl rfl (Sil.move rfl) ?_  -- 4.0: t12 := move
    refine ER.sil rfl rfl rfl rfl (Sil.move rfl) ?_  -- 4.1: t13 := move
    refine ER.sil rfl rfl rfl rfl (Sil.indexR Try.underlying43 inf68 rfl rfl (Vds.isE (hl.ext (hE.trans h3)) (by omega)) (by omega) (by omega)) ?_  -- 4.2: t14 := indexAddr
    refine ER.sil rfl rfl rfl rfl (Sil.fieldAddr Try.underlying68 rfl inf9 rfl) ?_  -- 4.3: t15 := fieldAddr
    refine ER.ex rfl rfl rfl rfl (Exa.load flat9 rfl (Vds.name (hl.ext (hE.trans h3)) hlt)) ?_  -- 4.4: t16 := load
    refine ER.sil rfl rfl rfl rfl (Sil.move rfl) ?_  -- 4.5: t17 := move
    refine ER.sil rfl rfl rfl rfl (Sil.seql rfl rfl) ?_  -- 4.6: t18 := binOp
    refine ER.nil (fun w4 h4 => ?_)
    refine AQ.then ?_
    refine EC.cond rfl (fun hb1 => ?_) (fun hb1 => ?_)  -- cond 1: t18
    ·
      refine EC.seq ?_
      -- region 5  ref.go:20
      refine EC.region (fun i => [1, 1].getD i 0) [0, 1] rfl ?_
      refine ER.sil rfl rfl rfl rfl (Sil.move rfl) ?_  -- 5.0: t19 := move
      refine ER.sil rfl rfl rfl rfl (Sil.assign rfl) ?_  -- 5.1: t4 := assign
      refine ER.nil (fun w5 h5 => ?_)
      refine AQ.then ?_
      refine EC.ret ?_
      refine AQ.blockRet ?_
      refine AQ.thenRet ?_
      refine AQ.thenRet ?_
      refine AQ.blockRet ?_
      refine AQ.thenRet ?_
      refine AQ.ret1 Try.results39 rfl ?_
      exact ⟨by rw [findI_hit hlt (of_decide_eq_true hb1) hok], (((hE.trans h3).trans h4).trans h5)⟩
    ·
      refine EC.skip ?_
      refine AQ.blockNormal ?_
      refine AQ.then ?_
      -- region 3  ref.go:18
      refine EC.region (fun i => [1, 1, 1].getD i 0) [0, 1, 2] rfl ?_
      refine ER.sil rfl rfl rfl rfl (Sil.move rfl) ?_  -- 3.0: t10 := move
      refine ER.sil rfl rfl rfl rfl (Sil.add rfl rfl) ?_  -- 3.1: t11 := binOp
      refine ER.sil rfl rfl rfl rfl (Sil.assign rfl) ?_  -- 3.2: t5 := assign
      refine ER.nil (fun w6 h6 => ?_)
      refine AQ.round (k + 1) [0, 1, 5] (by rw [← wrap_succ hlt hm]; rfl) ⟨(((hE.trans h3).trans h4).trans h6), hlt, fun j h hj => ?_⟩ (by omega)
      rcases Nat.lt_or_eq_of_le (Nat.le_of_lt_succ hj) with hj | rfl
      · exact hok j h hj
      · exact of_decide_eq_false hb1
  ·
    refine EC.exit ?_
    refine AQ.thenExit ?_
    refine AQ.thenExit ?_
    refine AQ.blockHit ?_
    refine AQ.then ?_
    refine EC.seq ?_
    -- region 6  ref.go:23
    refine EC.region (fun i => [1].getD i 0) [0] rfl ?_
    refine ER.sil rfl rfl rfl rfl (Sil.assign rfl) ?_  -- 6.0: t4 := assign
    refine ER.nil (fun w7 h7 => ?_)
    refine AQ.then ?_
    refine EC.ret ?_
    refine AQ.ret1 Try.results39 rfl ?_
    have hge : k = l.length := by have := of_decide_eq_false hb0; omega
    subst hge
    exact ⟨by rw [findI_miss fun j h => hok j h h], ((hE.trans h3).trans h7)⟩

-- linchpin/linchpinref31.has: parameters ['[]int', 'int'] (free 0), results [('ResultVar.tmp', 4)], 18 slots
set_option maxRecDepth 100000 in
theorem has31_any (l : List Int) (v : Value) (s : Int) (w : World) (hl : Ints w v l) :
    Calls Try.prog 26 [v, .int .i64 s].toArray w fun e w' => e = .returned (.bool (hasI l s)) ∧ Ext w w' := by
  have hm := hl.max
  refine calls_of Try.func26 rfl Try.ntmps26 rfl ?_
  refine EC.seq ?_
  -- region 0  ref.go:10
  refine EC.region (fun i => [1].getD i 0) [0] rfl ?_
  refine ER.sil rfl rfl rfl rfl (Sil.assign rfl) ?_  -- 0.0: t4 := assign
  refine ER.nil (fun w1 h1 => ?_)
  refine AQ.then ?_
  refine EC.seq ?_
  refine EC.seq ?_
  -- region 1  ref.go:11
  refine EC.region (fun i => [1].getD i 0) [0] rfl ?_
  refine ER.sil rfl rfl rfl rfl (Sil.assign rfl) ?_  -- 1.0: t5 := assign
  refine ER.nil (fun w2 h2 => ?_)
  refine AQ.then ?_
  refine EC.block ?_
  refine EC.loop (σ := Nat) (fun k => [(0, v), (1, .int .i64 s), (5, .int .i64 (k : Int))]) (fun k wr => Ext w wr ∧ k ≤ l.length ∧ ∀ j (h : j < l.length), j < k → l[j] ≠ s) (fun k => l.length - k) 0 [0, 1, 5] rfl ?_ (fun k wr hF => ?_)
  · exact ⟨(h1.trans h2), Nat.zero_le _, fun j _ h => absurd h (Nat.not_lt_zero j)⟩
  obtain ⟨hE, hk, hok⟩ := hF
  refine EC.seq ?_
  refine EC.seq ?_
  -- region 2  ref.go:11
  refine EC.region (fun i => [1, 1, 1, 1].getD i 0) [0, 1, 2, 3] rfl ?_
  refine ER.sil rfl rfl rfl rfl (Sil.move rfl) ?_  -- 2.0: t6 := move
  refine ER.sil rfl rfl rfl rfl (Sil.move rfl) ?_  -- 2.1: t7 := move
  refine ER.sil rfl rfl rfl rfl (Sil.lenR Try.underlying28 rfl (Ints.isS hl)) ?_  -- 2.2: t8 := call
  refine ER.sil rfl rfl rfl rfl (Sil.lss rfl rfl) ?_  -- 2.3: t9 := binOp
  refine ER.nil (fun w3 h3 => ?_)
  refine AQ.then ?_
  refine EC.cond rfl (fun hb0 => ?_) (fun hb0 => ?_)  -- cond 0: t9
  ·
    have hlt : k < l.length := by have := of_decide_eq_true hb0; omega
    refine EC.skip ?_
    refine AQ.then ?_
    refine EC.seq ?_
    refine EC.block ?_
    refine EC.seq ?_
    -- region 4  ref.go:12
    refine EC.region (fun i => [1, 1, 1, 0, 1, 1].getD i 0) [0, 1, 2, 3, 4, 5] rfl ?_
    refine ER.sil rfl rfl rfl rfl (Sil.move rfl) ?_  -- 4.0: t12 := move
    refine ER.sil rfl rfl rfl rfl (Sil.move rfl) ?_  -- 4.1: t13 := move
    refine ER.sil rfl rfl rfl rfl (Sil.indexR Try.underlying28 inf3 rfl rfl (Ints.isE (hl.ext (hE.trans h3)) (by omega)) (by omega) (by omega)) ?_  -- 4.2: t14 := indexAddr
    refine ER.ex rfl rfl rfl rfl (Exa.load flat3 rfl (Ints.cell (hl.ext (hE.trans h3)) hlt)) ?_  -- 4.3: t15 := load
    refine ER.sil rfl rfl rfl rfl (Sil.move rfl) ?_  -- 4.4: t16 := move
    refine ER.sil rfl rfl rfl rfl (Sil.eql rfl rfl) ?_  -- 4.5: t17 := binOp
    refine ER.nil (fun w4 h4 => ?_)
    refine AQ.then ?_
    refine EC.cond rfl (fun hb1 => ?_) (fun hb1 => ?_)  -- cond 1: t17
    ·
      have hb1 : l[k] = s := by simpa using hb1
      refine EC.seq ?_
      -- region 5  ref.go:13
      refine EC.region (fun i => [1].getD i 0) [0] rfl ?_
      refine ER.sil rfl rfl rfl rfl (Sil.assign rfl) ?_  -- 5.0: t4 := assign
      refine ER.nil (fun w5 h5 => ?_)
      refine AQ.then ?_
      refine EC.ret ?_
      refine AQ.blockRet ?_
      refine AQ.thenRet ?_
      refine AQ.thenRet ?_
      refine AQ.blockRet ?_
      refine AQ.thenRet ?_
      refine AQ.ret1 Try.results26 rfl ?_
      exact ⟨by rw [hasI, decide_eq_true (hb1 ▸ List.getElem_mem hlt : s ∈ l)], (((hE.trans h3).trans h4).trans h5)⟩
    ·
      have hb1 : l[k] ≠ s := by simpa using hb1
      refine EC.skip ?_
      refine AQ.blockNormal ?_
      refine AQ.then ?_
      -- region 3  ref.go:11
      refine EC.region (fun i => [1, 1, 1].getD i 0) [0, 1, 2] rfl ?_
      refine ER.sil rfl rfl rfl rfl (Sil.move rfl) ?_  -- 3.0: t10 := move
      refine ER.sil rfl rfl rfl rfl (Sil.add rfl rfl) ?_  -- 3.1: t11 := binOp
      refine ER.sil rfl rfl rfl rfl (Sil.assign rfl) ?_  -- 3.2: t5 := assign
      refine ER.nil (fun w6 h6 => ?_)
      refine AQ.round (k + 1) [0, 1, 5] (by rw [← wrap_succ hlt hm]; rfl) ⟨(((hE.trans h3).trans h4).trans h6), hlt, fun j h hj => ?_⟩ (by omega)
      rcases Nat.lt_or_eq_of_le (Nat.le_of_lt_succ hj) with hj | rfl
      · exact hok j h hj
      · exact hb1
  ·
    refine EC.exit ?_
    refine AQ.thenExit ?_
    refine AQ.thenExit ?_
    refine AQ.blockHit ?_
    refine AQ.then ?_
    refine EC.seq ?_
    -- region 6  ref.go:16
    refine EC.region (fun i => [1].getD i 0) [0] rfl ?_
    refine ER.sil rfl rfl rfl rfl (Sil.assign rfl) ?_  -- 6.0: t4 := assign
    refine ER.nil (fun w7 h7 => ?_)
    refine AQ.then ?_
    refine EC.ret ?_
    refine AQ.ret1 Try.results26 rfl ?_
    have hge : k = l.length := by have := of_decide_eq_false hb0; omega
    subst hge
    have hn : hasI l s = false := decide_eq_false fun h => by
      obtain ⟨j, hj, he⟩ := List.getElem_of_mem h
      exact hok j hj hj he
    exact ⟨by rw [hn], ((hE.trans h3).trans h7)⟩

end Go.Proofs.Ytgagjmapjdeknaa
