/- Bind: the reference's list of what a string serves. -/
import Derived.Test.YtgagjmapjdeknaaW1
namespace Go.Proofs.Ytgagjmapjdeknaa
open Go.RowKit Go.XK Go.BindLaw

structure AllS where
  k : Nat
  v : Value

-- linchpin/linchpinref08.all: parameters ['[]api.VersionDef', 'string'] (free 0), results [('ResultVar.tmp', 4)], 58 slots
set_option maxRecDepth 100000 in
theorem all08_any (l : List Vd) (v : Value) (s : ByteArray) (w : World) (hl : Vds w v l) (hn : (univ l s).length ≤ 1000) :
    Calls Try.prog 35 [v, .string s].toArray w fun e w' => ∃ v', e = .returned v' ∧ Ext w w' ∧ w'.ownsRow w.heap.size 9 1 v' (allL l s).length ((allL l s).map Value.string) := by
  have hm := hl.max
  refine calls_of Try.func35 rfl Try.ntmps35 rfl ?_
  refine EC.seq ?_
  -- region 0  ref.go:37
  refine EC.region (fun i => [1].getD i 0) [0] rfl ?_
  refine ER.sil rfl rfl rfl rfl (Sil.assign rfl) ?_  -- 0.0: t4 := assign
  refine ER.nil (fun w1 h1 => ?_)
  refine AQ.then ?_
  refine EC.seq ?_
  -- region 1  ref.go:38
  refine EC.region (fun i => [1, 2, 1].getD i 0) [0, 1, 2] rfl ?_
  refine ER.sil rfl rfl rfl rfl (Sil.move rfl) ?_  -- 1.0: t9 := move
  refine ER.st rfl rfl rfl rfl (fun w2 h2 => Stp.buildAll [_] Try.underlying42 inf9 rfl rfl rfl rfl rfl rfl (fun w3 h3 s3 r3 => ⟨h3, ?_⟩))  -- 1.1: t10 := buildSlice
  have hq := Nat.le_trans h1.size h2.size
  refine ER.sil rfl rfl rfl rfl (Sil.assign rfl) ?_  -- 1.2: t5 := assign
  refine ER.nil (fun w4 h4 => ?_)
  refine AQ.then ?_
  refine EC.seq ?_
  refine EC.seq ?_
  -- region 2  ref.go:39
  refine EC.region (fun i => [1].getD i 0) [0] rfl ?_
  refine ER.sil rfl rfl rfl rfl (Sil.assign rfl) ?_  -- 2.0: t6 := assign
  refine ER.nil (fun w5 h5 => ?_)
  refine AQ.then ?_
  refine EC.block ?_
  refine EC.loop (σ := AllS) (fun q => [(0, v), (1, .string s), (5, q.v), (6, .int .i64 (q.k : Int))]) (fun q wr => Ext w wr ∧ q.k ≤ (allTo l s q.k).length ∧ wr.ownsRow w.heap.size 9 1 q.v (allTo l s q.k).length ((allTo l s q.k).map Value.string)) (fun q => (univ l s).length + 1 - q.k) ⟨0, _⟩ [0, 1, 5, 6] rfl ?_ (fun q wr hF => ?_)
  · exact ⟨((((h1.trans h2).trans h3).trans h4).trans h5), Nat.zero_le _, own_of_row (vs := [.string s]) (r3.ext (h4.trans h5)) hq rfl (by decide)⟩
  obtain ⟨hE, hk, out⟩ := hF
  have hlen := allTo_len l s q.k
  refine EC.seq ?_
  refine EC.seq ?_
  -- region 3  ref.go:39
  refine EC.region (fun i => [1, 1, 1, 1].getD i 0) [0, 1, 2, 3] rfl ?_
  refine ER.sil rfl rfl rfl rfl (Sil.move rfl) ?_  -- 3.0: t11 := move
  refine ER.sil rfl rfl rfl rfl (Sil.move rfl) ?_  -- 3.1: t12 := move
  refine ER.sil rfl rfl rfl rfl (Sil.lenR Try.underlying42 rfl (Strs.isS (Strs.of_own out))) ?_  -- 3.2: t13 := call
  refine ER.sil rfl rfl rfl rfl (Sil.lss rfl rfl) ?_  -- 3.3: t14 := binOp
  refine ER.nil (fun w6 h6 => ?_)
  refine AQ.then ?_
  refine EC.cond rfl (fun hb0 => ?_) (fun hb0 => ?_)  -- cond 0: t14
  ·
    have hlt : q.k < (allTo l s q.k).length := by have := of_decide_eq_true hb0; omega
    refine EC.skip ?_
    refine AQ.then ?_
    refine EC.seq ?_
    refine EC.block ?_
    refine EC.seq ?_
    -- region 5  ref.go:40
    refine EC.region (fun i => [1, 1, 1, 1, 0, 0, 1].getD i 0) [0, 1, 2, 3, 4, 5, 6] rfl ?_
    refine ER.sil rfl rfl rfl rfl (Sil.move rfl) ?_  -- 5.0: t17 := move
    refine ER.sil rfl rfl rfl rfl (Sil.move rfl) ?_  -- 5.1: t18 := move
    refine ER.sil rfl rfl rfl rfl (Sil.move rfl) ?_  -- 5.2: t19 := move
    refine ER.sil rfl rfl rfl rfl (Sil.indexR Try.underlying42 inf9 rfl rfl (Strs.isE (Strs.of_own (Ext.own out h6)) (by omega)) (by omega) (by omega)) ?_  -- 5.3: t20 := indexAddr
    refine ER.ex rfl rfl rfl rfl (Exa.load flat9 rfl (Strs.cell (Strs.of_own (Ext.own out h6)) hlt)) ?_  -- 5.4: t21 := load
    refine ER.ex rfl rfl rfl rfl (Exa.call fok39 rfl rfl (fun wx hx => (find08_any l v _ wx (hl.ext ((hE.trans h6).trans hx))))) ?_  -- 5.5: t22 := call
    refine ER.sil rfl rfl rfl rfl (Sil.assign rfl) ?_  -- 5.6: t7 := assign
    refine ER.nil (fun w7 h7 => ?_)
    refine AQ.then ?_
    refine EC.seq ?_
    refine EC.seq ?_
    -- region 6  ref.go:41
    refine EC.region (fun i => [1, 1].getD i 0) [0, 1] rfl ?_
    refine ER.sil rfl rfl rfl rfl (Sil.move rfl) ?_  -- 6.0: t23 := move
    refine ER.sil rfl rfl rfl rfl (Sil.lss rfl rfl) ?_  -- 6.1: t24 := binOp
    refine ER.nil (fun w8 h8 => ?_)
    refine AQ.then ?_
    refine EC.cond rfl (fun hb1 => ?_) (fun hb1 => ?_)  -- cond 1: t24
    ·
      have hpar : par l (allTo l s q.k)[q.k] = [] := findI_neg (of_decide_eq_true hb1)
      refine EC.exit ?_
      refine AQ.thenExit ?_
      refine AQ.blockHit ?_
      refine AQ.then ?_
      -- region 4  ref.go:39
      refine EC.region (fun i => [1, 1, 1].getD i 0) [0, 1, 2] rfl ?_
      refine ER.sil rfl rfl rfl rfl (Sil.move rfl) ?_  -- 4.0: t15 := move
      refine ER.sil rfl rfl rfl rfl (Sil.add rfl rfl) ?_  -- 4.1: t16 := binOp
      refine ER.sil rfl rfl rfl rfl (Sil.assign rfl) ?_  -- 4.2: t6 := assign
      refine ER.nil (fun w9 h9 => ?_)
      have hnx := allTo_next hlt
      rw [hpar] at hnx
      have hnx : allTo l s (q.k + 1) = (allTo l s q.k) := hnx
      refine AQ.round ⟨q.k + 1, q.v⟩ [0, 1, 5, 6] (by rw [← wrap_succ hlt (by unfold maxLen; omega)]; rfl) ⟨((((hE.trans h6).trans h7).trans h8).trans h9), by simp only [hnx]; omega, by simp only [hnx]; exact (Ext.own out (((h6.trans h7).trans h8).trans h9))⟩ (by simp only; omega)
    ·
      obtain ⟨i, hi, hfi, hpar⟩ := findI_ge (of_decide_eq_false hb1)
      rw [hfi]
      obtain ⟨pv, hat, hpv⟩ := Vds.elem hl hi
      have hpm := hpv.max
      refine EC.skip ?_
      refine AQ.then ?_
      refine EC.seq ?_
      -- region 7  ref.go:44
      refine EC.region (fun i => [1].getD i 0) [0] rfl ?_
      refine ER.sil rfl rfl rfl rfl (Sil.assign rfl) ?_  -- 7.0: t8 := assign
      refine ER.nil (fun w10 h10 => ?_)
      refine AQ.then ?_
      refine EC.block ?_
      refine EC.loop (σ := AllS) (fun r => [(0, v), (1, .string s), (5, r.v), (6, .int .i64 (q.k : Int)), (7, .int .i64 (i : Int)), (8, .int .i64 (r.k : Int))]) (fun r wr => Ext w wr ∧ r.k ≤ l[i].parents.length ∧ wr.ownsRow w.heap.size 9 1 r.v (addAll (allTo l s q.k) (l[i].parents.take r.k)).length ((addAll (allTo l s q.k) (l[i].parents.take r.k)).map Value.string)) (fun r => l[i].parents.length - r.k) ⟨0, q.v⟩ [0, 1, 5, 6, 7, 8] rfl ?_ (fun r wr hF => ?_)
      · exact ⟨((((hE.trans h6).trans h7).trans h8).trans h10), Nat.zero_le _, (Ext.own out (((h6.trans h7).trans h8).trans h10))⟩
      obtain ⟨hE, hkr, out⟩ := hF
      have hlen2 := addAll_len l s (allTo l s q.k)[q.k] q.k r.k
      rw [hpar] at hlen2
      refine EC.seq ?_
      refine EC.seq ?_
      -- region 8  ref.go:44
      refine EC.region (fun i => [1, 1, 1, 1, 1, 0, 1, 1].getD i 0) [0, 1, 2, 3, 4, 5, 6, 7] rfl ?_
      refine ER.sil rfl rfl rfl rfl (Sil.move rfl) ?_  -- 8.0: t25 := move
      refine ER.sil rfl rfl rfl rfl (Sil.move rfl) ?_  -- 8.1: t26 := move
      refine ER.sil rfl rfl rfl rfl (Sil.move rfl) ?_  -- 8.2: t27 := move
      refine ER.sil rfl rfl rfl rfl (Sil.indexR Try.underlying43 inf68 rfl rfl (Vds.isE (hl.ext hE) (by omega)) (by omega) (by omega)) ?_  -- 8.3: t28 := indexAddr
      refine ER.sil rfl rfl rfl rfl (Sil.fieldAddr Try.underlying68 rfl inf42 rfl) ?_  -- 8.4: t29 := fieldAddr
      refine ER.ex rfl rfl rfl rfl (Exa.load flat42 rfl ((hat.ext hE) 1 _ rfl)) ?_  -- 8.5: t30 := load
      refine ER.sil rfl rfl rfl rfl (Sil.lenR Try.underlying42 rfl (Strs.isS hpv)) ?_  -- 8.6: t31 := call
      refine ER.sil rfl rfl rfl rfl (Sil.lss rfl rfl) ?_  -- 8.7: t32 := binOp
      refine ER.nil (fun w11 h11 => ?_)
      refine AQ.then ?_
      refine EC.cond rfl (fun hb2 => ?_) (fun hb2 => ?_)  -- cond 2: t32
      ·
        have hlj : r.k < l[i].parents.length := by have := of_decide_eq_true hb2; omega
        refine EC.skip ?_
        refine AQ.then ?_
        refine EC.seq ?_
        refine EC.block ?_
        refine EC.seq ?_
        -- region 10  ref.go:45
        refine EC.region (fun i => [1, 1, 1, 1, 1, 0, 1, 1, 0, 0, 1].getD i 0) [0, 1, 2, 3, 4, 5, 6, 7, 8, 9, 10] rfl ?_
        refine ER.sil rfl rfl rfl rfl (Sil.move rfl) ?_  -- 10.0: t35 := move
        refine ER.sil rfl rfl rfl rfl (Sil.move rfl) ?_  -- 10.1: t36 := move
        refine ER.sil rfl rfl rfl rfl (Sil.move rfl) ?_  -- 10.2: t37 := move
        refine ER.sil rfl rfl rfl rfl (Sil.indexR Try.underlying43 inf68 rfl rfl (Vds.isE (hl.ext (hE.trans h11)) (by omega)) (by omega) (by omega)) ?_  -- 10.3: t38 := indexAddr
        refine ER.sil rfl rfl rfl rfl (Sil.fieldAddr Try.underlying68 rfl inf42 rfl) ?_  -- 10.4: t39 := fieldAddr
        refine ER.ex rfl rfl rfl rfl (Exa.load flat42 rfl ((hat.ext (hE.trans h11)) 1 _ rfl)) ?_  -- 10.5: t40 := load
        refine ER.sil rfl rfl rfl rfl (Sil.move rfl) ?_  -- 10.6: t41 := move
        refine ER.sil rfl rfl rfl rfl (Sil.indexR Try.underlying42 inf9 rfl rfl (Strs.isE (hpv.ext (hE.trans h11)) (by omega)) (by omega) (by omega)) ?_  -- 10.7: t42 := indexAddr
        refine ER.ex rfl rfl rfl rfl (Exa.load flat9 rfl (Strs.cell (hpv.ext (hE.trans h11)) hlj)) ?_  -- 10.8: t43 := load
        refine ER.ex rfl rfl rfl rfl (Exa.call fok34 rfl rfl (fun wx hx => (has08_any (addAll (allTo l s q.k) (l[i].parents.take r.k)) _ _ wx ((Strs.of_own (Ext.own out h11)).ext hx)))) ?_  -- 10.9: t44 := call
        refine ER.sil rfl rfl rfl rfl (Sil.not rfl) ?_  -- 10.10: t45 := unOp
        refine ER.nil (fun w12 h12 => ?_)
        refine AQ.then ?_
        refine EC.cond rfl (fun hb3 => ?_) (fun hb3 => ?_)  -- cond 3: t45
        ·
          have hh : hasS (addAll (allTo l s q.k) (l[i].parents.take r.k)) l[i].parents[r.k] = false := by simpa using hb3
          -- region 11  ref.go:46
          refine EC.region (fun i => [1, 1, 1, 1, 1, 0, 1, 1, 0, 2, 3, 1].getD i 0) [0, 1, 2, 3, 4, 5, 6, 7, 8, 9, 10, 11] rfl ?_
          refine ER.sil rfl rfl rfl rfl (Sil.move rfl) ?_  -- 11.0: t46 := move
          refine ER.sil rfl rfl rfl rfl (Sil.move rfl) ?_  -- 11.1: t47 := move
          refine ER.sil rfl rfl rfl rfl (Sil.move rfl) ?_  -- 11.2: t48 := move
          refine ER.sil rfl rfl rfl rfl (Sil.indexR Try.underlying43 inf68 rfl rfl (Vds.isE (hl.ext ((hE.trans h11).trans h12)) (by omega)) (by omega) (by omega)) ?_  -- 11.3: t49 := indexAddr
          refine ER.sil rfl rfl rfl rfl (Sil.fieldAddr Try.underlying68 rfl inf42 rfl) ?_  -- 11.4: t50 := fieldAddr
          refine ER.ex rfl rfl rfl rfl (Exa.load flat42 rfl ((hat.ext ((hE.trans h11).trans h12)) 1 _ rfl)) ?_  -- 11.5: t51 := load
          refine ER.sil rfl rfl rfl rfl (Sil.move rfl) ?_  -- 11.6: t52 := move
          refine ER.sil rfl rfl rfl rfl (Sil.indexR Try.underlying42 inf9 rfl rfl (Strs.isE (hpv.ext ((hE.trans h11).trans h12)) (by omega)) (by omega) (by omega)) ?_  -- 11.7: t53 := indexAddr
          refine ER.ex rfl rfl rfl rfl (Exa.load flat9 rfl (Strs.cell (hpv.ext ((hE.trans h11).trans h12)) hlj)) ?_  -- 11.8: t54 := load
          refine ER.st rfl rfl rfl rfl (fun w13 h13 => Stp.buildAll [_] Try.underlying42 inf9 rfl rfl rfl rfl rfl rfl (fun w14 h14 s14 r14 => ⟨h14, ?_⟩))  -- 11.9: t55 := buildSlice
          refine ER.bar rfl rfl rfl rfl (fun w15 h15 => ?_)  -- 11.10: t56 := call
          have o15 := (Ext.own out ((((h11.trans h12).trans h13).trans h14).trans h15))
          refine Stp.append Try.underlying42 inf9 rfl (by decide) rfl rfl o15 ((((((hE.trans h11).trans h12).trans h13).trans h14).trans h15).size) (Reads.of_row (r14.ext h15) rfl (by decide)) (strs_one [_]) (by first | omega | (simp only [List.length_append, List.length_cons, List.length_nil]; omega)) (by unfold maxLen; first | omega | (simp only [List.length_append, List.length_cons, List.length_nil]; omega)) (fun v16 w16 o16 g16 n16 => ?_)
          have e16 := (((((hE.trans h11).trans h12).trans h13).trans h14).trans h15).grown g16 (fun k hk => Nat.le_trans (Nat.le_refl _) (o15.lt k hk).1)
          have z16 : w16.ownsRow w.heap.size 9 1 v16 ((addAll (allTo l s q.k) (l[i].parents.take r.k)) ++ [l[i].parents[r.k]]).length (((addAll (allTo l s q.k) (l[i].parents.take r.k)) ++ [l[i].parents[r.k]]).map Value.string) := by rw [List.length_append, List.map_append]; exact o16
          refine ER.sil rfl rfl rfl rfl (Sil.assign rfl) ?_  -- 11.11: t5 := assign
          refine ER.nil (fun w17 h17 => ?_)
          refine AQ.blockNormal ?_
          refine AQ.then ?_
          -- region 9  ref.go:44
          refine EC.region (fun i => [1, 1, 1].getD i 0) [0, 1, 2] rfl ?_
          refine ER.sil rfl rfl rfl rfl (Sil.move rfl) ?_  -- 9.0: t33 := move
          refine ER.sil rfl rfl rfl rfl (Sil.add rfl rfl) ?_  -- 9.1: t34 := binOp
          refine ER.sil rfl rfl rfl rfl (Sil.assign rfl) ?_  -- 9.2: t8 := assign
          refine ER.nil (fun w18 h18 => ?_)
          have hst : addAll (allTo l s q.k) (l[i].parents.take (r.k + 1)) = (addAll (allTo l s q.k) (l[i].parents.take r.k)) ++ [l[i].parents[r.k]] := by rw [addAll_take _ _ hlj, snoc1, if_neg (by rw [hh]; exact Bool.false_ne_true)]
          refine AQ.round ⟨r.k + 1, _⟩ [0, 1, 5, 6, 7, 8] (by rw [← wrap_succ hlj hpm]; rfl) ⟨((e16.trans h17).trans h18), hlj, by simp only [hst]; exact (Ext.own z16 (h17.trans h18))⟩ (by simp only; omega)
        ·
          have hh : hasS (addAll (allTo l s q.k) (l[i].parents.take r.k)) l[i].parents[r.k] = true := by simpa using hb3
          refine EC.skip ?_
          refine AQ.blockNormal ?_
          refine AQ.then ?_
          -- region 9  ref.go:44
          refine EC.region (fun i => [1, 1, 1].getD i 0) [0, 1, 2] rfl ?_
          refine ER.sil rfl rfl rfl rfl (Sil.move rfl) ?_  -- 9.0: t33 := move
          refine ER.sil rfl rfl rfl rfl (Sil.add rfl rfl) ?_  -- 9.1: t34 := binOp
          refine ER.sil rfl rfl rfl rfl (Sil.assign rfl) ?_  -- 9.2: t8 := assign
          refine ER.nil (fun w19 h19 => ?_)
          have hst : addAll (allTo l s q.k) (l[i].parents.take (r.k + 1)) = (addAll (allTo l s q.k) (l[i].parents.take r.k)) := by rw [addAll_take _ _ hlj, snoc1, if_pos hh]
          refine AQ.round ⟨r.k + 1, r.v⟩ [0, 1, 5, 6, 7, 8] (by rw [← wrap_succ hlj hpm]; rfl) ⟨(((hE.trans h11).trans h12).trans h19), hlj, by simp only [hst]; exact (Ext.own out ((h11.trans h12).trans h19))⟩ (by simp only; omega)
      ·
        refine EC.exit ?_
        refine AQ.thenExit ?_
        refine AQ.thenExit ?_
        refine AQ.blockHit ?_
        refine AQ.blockNormal ?_
        refine AQ.then ?_
        -- region 4  ref.go:39
        refine EC.region (fun i => [1, 1, 1].getD i 0) [0, 1, 2] rfl ?_
        refine ER.sil rfl rfl rfl rfl (Sil.move rfl) ?_  -- 4.0: t15 := move
        refine ER.sil rfl rfl rfl rfl (Sil.add rfl rfl) ?_  -- 4.1: t16 := binOp
        refine ER.sil rfl rfl rfl rfl (Sil.assign rfl) ?_  -- 4.2: t6 := assign
        refine ER.nil (fun w20 h20 => ?_)
        have hge : r.k = l[i].parents.length := by have := of_decide_eq_false hb2; omega
        have hnx := allTo_next hlt
        rw [hpar] at hnx
        have hst : (addAll (allTo l s q.k) (l[i].parents.take r.k)) = allTo l s (q.k + 1) := by rw [hnx, hge, List.take_length]
        have hpre := (allTo_pre l s q.k).length_le
        refine AQ.round ⟨q.k + 1, r.v⟩ [0, 1, 5, 6] (by rw [← wrap_succ hlt (by unfold maxLen; omega)]; rfl) ⟨((hE.trans h11).trans h20), by simp only; omega, by rw [hst] at out; exact (Ext.own out (h11.trans h20))⟩ (by simp only; omega)
  ·
    refine EC.exit ?_
    refine AQ.thenExit ?_
    refine AQ.thenExit ?_
    refine AQ.blockHit ?_
    refine AQ.then ?_
    refine EC.seq ?_
    -- region 12  ref.go:50
    refine EC.region (fun i => [1, 1].getD i 0) [0, 1] rfl ?_
    refine ER.sil rfl rfl rfl rfl (Sil.move rfl) ?_  -- 12.0: t57 := move
    refine ER.sil rfl rfl rfl rfl (Sil.assign rfl) ?_  -- 12.1: t4 := assign
    refine ER.nil (fun w21 h21 => ?_)
    refine AQ.then ?_
    refine EC.ret ?_
    refine AQ.ret1 Try.results35 rfl ?_
    have hge : (allTo l s q.k).length ≤ q.k := by have := of_decide_eq_false hb0; omega
    refine ⟨_, rfl, ((hE.trans h6).trans h21), ?_⟩
    rw [allL_of hge hk]
    exact (Ext.own out (h6.trans h21))

-- linchpin/linchpinref08.Serves: parameters ['[]api.VersionDef', 'string', 'string'] (free 0), results [('ResultVar.tmp', 6)], 12 slots
set_option maxRecDepth 100000 in
theorem serves08_any (l : List Vd) (v : Value) (s t : ByteArray) (w : World) (hl : Vds w v l) (hn : (univ l s).length ≤ 1000) :
    Calls Try.prog 30 [v, .string s, .string t].toArray w fun e w' => e = .returned (.bool (servesB l s t)) ∧ Ext w w' := by
  refine calls_of Try.func30 rfl Try.ntmps30 rfl ?_
  refine EC.seq ?_
  -- region 0  ref.go:73
  refine EC.region (fun i => [1].getD i 0) [0] rfl ?_
  refine ER.sil rfl rfl rfl rfl (Sil.assign rfl) ?_  -- 0.0: t6 := assign
  refine ER.nil (fun w1 h1 => ?_)
  refine AQ.then ?_
  refine EC.seq ?_
  -- region 1  ref.go:73
  refine EC.region (fun i => [1, 1, 2, 1, 0, 1].getD i 0) [0, 1, 2, 3, 4, 5] rfl ?_
  refine ER.sil rfl rfl rfl rfl (Sil.move rfl) ?_  -- 1.0: t7 := move
  refine ER.sil rfl rfl rfl rfl (Sil.move rfl) ?_  -- 1.1: t8 := move
  refine ER.st rfl rfl rfl rfl (fun w2 h2 => Stp.call fok35 rfl rfl (Calls.mono ((all08_any l v s w2 (hl.ext (h1.trans h2)) hn)) ?_))  -- 1.2: t9 := call
  rintro _ w3 ⟨v3, rfl, h3, pa3⟩
  refine ⟨v3, rfl, h3, ?_⟩
  refine ER.sil rfl rfl rfl rfl (Sil.move rfl) ?_  -- 1.3: t10 := move
  refine ER.ex rfl rfl rfl rfl (Exa.call fok34 rfl rfl (fun wx hx => (has08_any _ _ t wx ((Strs.of_own pa3).ext hx)))) ?_  -- 1.4: t11 := call
  refine ER.sil rfl rfl rfl rfl (Sil.assign rfl) ?_  -- 1.5: t6 := assign
  refine ER.nil (fun w4 h4 => ?_)
  refine AQ.then ?_
  refine EC.ret ?_
  refine AQ.ret1 Try.results30 rfl ?_
  exact ⟨rfl, (((h1.trans h2).trans h3).trans h4)⟩

end Go.Proofs.Ytgagjmapjdeknaa
