/- Locate: the reference's Of. -/
import Derived.Test.YtcgapppamhffjaaW15
namespace Go.Proofs.Ytcgapppamhffjaa
open Go.RowKit Go.XK Go.LocateLaw

theorem getD_get {l : List Int} {i : Nat} (h : i < l.length) : l.getD i 0 = l[i] := by simp [List.getD, h]
theorem icL : ∀ b : Int, ((fun k : Int => [Value.int .i64 k]) b).length = 1 := fun _ => rfl
theorem ic1 (l : List Int) : ∀ u ∈ (l.map (fun k : Int => [Value.int .i64 k])).flatten, u.oneCell' = true := fun u hu => by
  obtain ⟨c, hc, hu⟩ := List.mem_flatten.1 hu
  obtain ⟨x, _, rfl⟩ := List.mem_map.1 hc
  simp at hu
  subst hu
  rfl
theorem LR.take {α : Type} {K : Nat} {f : α → List Value} {w : World} {v : Value} {l : List α} (hf : ∀ b, (f b).length = K) (h : LR K f w v l) {i : Nat} (hi : i ≤ l.length) : LR K f w (takeV v i) (l.take i) := by
  refine LR.of_map hf ?_
  have := Reads.takeV h.reads hi
  rw [List.length_take, Nat.min_eq_left hi]
  have e : ∀ (l : List α) (i : Nat), (l.map f).flatten.take (i * K) = ((l.take i).map f).flatten := by
    intro l
    induction l with
    | nil => intro i; simp
    | cons x r ih =>
      intro i
      cases i with
      | zero => simp
      | succ i =>
        have hx := hf x
        rw [List.map_cons, List.flatten_cons, List.take_succ_cons, List.map_cons, List.flatten_cons, ← ih i, Nat.succ_mul, Nat.add_comm, take_add hx]
  rw [← e]
  exact this

-- linchpin/linchpinref42.Of: parameters ['api.Image', 'string', 'int'] (free 0), results [('ResultVar.tmp', 6)], 81 slots
set_option maxRecDepth 100000 in
theorem ofr_any (cs : List Value) (inf : Inf) (f : ByteArray) (n : Int) (w : World) (hi : InfC w cs inf) (hm8 : inf.lines.length ≤ 60) :
    Calls Try.prog 17 [.agg cs.toArray, .string f, .int .i64 n].toArray w fun e w' => ∃ v', e = .returned v' ∧ Ext w w' ∧ LR 1 (fun k : Int => [.int .i64 k]) w' v' (ofS inf f n) := by
  obtain ⟨lv, hlv, hll⟩ := hi.2.2.1
  have hcl := hi.len
  have hlm := hll.max
  refine calls_of Try.func17 rfl Try.ntmps17 rfl ?_
  refine EC.seq ?_
  -- region 0  ref.go:78
  refine EC.region (fun i => [2, 1].getD i 0) [0, 1] rfl ?_
  refine ER.st rfl rfl rfl rfl (fun w1 h1 => Stp.box rfl (fun w2 h2 s2 r2 => ⟨h2, ?_⟩))  -- 0.0: t3 := box
  refine ER.sil rfl rfl rfl rfl (Sil.assign rfl) ?_  -- 0.1: t6 := assign
  refine ER.nil (fun w3 h3 => ?_)
  refine AQ.then ?_
  refine EC.seq ?_
  -- region 1  ref.go:79
  refine EC.region (fun i => [1].getD i 0) [0] rfl ?_
  refine ER.sil rfl rfl rfl rfl (Sil.assign rfl) ?_  -- 1.0: t7 := assign
  refine ER.nil (fun w4 h4 => ?_)
  refine AQ.then ?_
  refine EC.seq ?_
  refine EC.seq ?_
  -- region 2  ref.go:80
  refine EC.region (fun i => [1].getD i 0) [0] rfl ?_
  refine ER.sil rfl rfl rfl rfl (Sil.assign rfl) ?_  -- 2.0: t8 := assign
  refine ER.nil (fun w5 h5 => ?_)
  refine AQ.then ?_
  refine EC.block ?_
  refine EC.loop (σ := VarS) (fun q => [(1, .string f), (2, .int .i64 n), (3, ptr w1.heap.size), (7, q.v), (8, .int .i64 (q.k : Int))]) (fun q wr => Ext w wr ∧ Row wr w1.heap.size 39 cs ∧ LR 1 (fun k : Int => [.int .i64 k]) wr q.v (ofTo inf f n q.k) ∧ q.k ≤ inf.lines.length) (fun q => inf.lines.length - q.k) ⟨0, .slice none 0 0⟩ [1, 2, 3, 7, 8] rfl ?_ (fun q wr hF => ?_)
  · exact ⟨((((h1.trans h2).trans h3).trans h4).trans h5), (r2.ext ((h3.trans h4).trans h5)), LR.nil _, Nat.zero_le _⟩
  obtain ⟨hE, q3, hl, hk⟩ := hF
  have hon := ofTo_len inf f n q.k
  have hos := ofTo_sorted inf f n q.k
  refine EC.seq ?_
  refine EC.seq ?_
  -- region 3  ref.go:80
  refine EC.region (fun i => [1, 1, 1, 0, 1, 1].getD i 0) [0, 1, 2, 3, 4, 5] rfl ?_
  refine ER.sil rfl rfl rfl rfl (Sil.move rfl) ?_  -- 3.0: t12 := move
  refine ER.sil rfl rfl rfl rfl (Sil.fieldAddr Try.underlying39 rfl inf36 rfl) ?_  -- 3.1: t13 := fieldAddr
  refine ER.sil rfl rfl rfl rfl (Sil.fieldAddr Try.underlying36 rfl inf30 rfl) ?_  -- 3.2: t14 := fieldAddr
  refine ER.ex rfl rfl rfl rfl (Exa.load flat30 rfl ((q3).cell hlv)) ?_  -- 3.3: t15 := load
  refine ER.sil rfl rfl rfl rfl (Sil.lenR Try.underlying30 rfl (hll.isS)) ?_  -- 3.4: t16 := call
  refine ER.sil rfl rfl rfl rfl (Sil.lss rfl rfl) ?_  -- 3.5: t17 := binOp
  refine ER.nil (fun w6 h6 => ?_)
  refine AQ.then ?_
  refine EC.cond rfl (fun hb0 => ?_) (fun hb0 => ?_)  -- cond 0: t17
  ·
    have hlt : q.k < inf.lines.length := by have := of_decide_eq_true hb0; omega
    refine EC.skip ?_
    refine AQ.then ?_
    refine EC.seq ?_
    refine EC.block ?_
    refine EC.seq ?_
    -- region 5  ref.go:81
    refine EC.region (fun i => [1, 1, 0, 1, 1, 0, 2, 3].getD i 0) [0, 1, 2, 3, 4, 5, 6, 7] rfl ?_
    refine ER.sil rfl rfl rfl rfl (Sil.fieldAddr Try.underlying39 rfl inf36 rfl) ?_  -- 5.0: t20 := fieldAddr
    refine ER.sil rfl rfl rfl rfl (Sil.fieldAddr Try.underlying36 rfl inf30 rfl) ?_  -- 5.1: t21 := fieldAddr
    refine ER.ex rfl rfl rfl rfl (Exa.load flat30 rfl (((q3.ext h6)).cell hlv)) ?_  -- 5.2: t22 := load
    refine ER.sil rfl rfl rfl rfl (Sil.move rfl) ?_  -- 5.3: t23 := move
    refine ER.sil rfl rfl rfl rfl (Sil.indexR Try.underlying30 inf74 rfl rfl (hll.isE (by omega)) (by omega) (by omega)) ?_  -- 5.4: t24 := indexAddr
    refine ER.ex rfl rfl rfl rfl (Exa.loadAgg (vs := (lnC inf.lines[q.k])) agg74 rfl ((hll.at hlt).ext (hE.trans h6))) ?_  -- 5.5: t25 := load
    refine ER.st rfl rfl rfl rfl (fun w7 h7 => Stp.alloc inf74 (fun w8 h8 s8 r8 => ⟨h8, ?_⟩))  -- 5.6: t9 := alloc
    refine ER.bar rfl rfl rfl rfl (fun w9 h9 => Stp.store (by kernel_rfl) rfl rfl (r8.ext h9) rfl rfl (fun w10 u10 r10 => ?_))  -- 5.7: tNone := store
    have e10 := ((h7.trans h8).trans h9).upd u10 h7.size
    refine ER.nil (fun w11 h11 => ?_)
    refine AQ.then ?_
    refine EC.seq ?_
    refine EC.seq ?_
    -- region 6  ref.go:82
    refine EC.region (fun i => [1, 0, 1, 1, 1, 1, 0, 1, 1, 1].getD i 0) [0, 1, 2, 3, 4, 5, 6, 7, 8, 9] rfl ?_
    refine ER.sil rfl rfl rfl rfl (Sil.fieldAddr Try.underlying74 rfl inf9 rfl) ?_  -- 6.0: t26 := fieldAddr
    refine ER.ex rfl rfl rfl rfl (Exa.load flat9 rfl ((r10.ext h11).cell rfl)) ?_  -- 6.1: t27 := load
    refine ER.sil rfl rfl rfl rfl (Sil.move rfl) ?_  -- 6.2: t28 := move
    refine ER.sil rfl rfl rfl rfl (Sil.sneq rfl rfl) ?_  -- 6.3: t29 := binOp
    refine ER.sil rfl rfl rfl rfl (Sil.move rfl) ?_  -- 6.4: t30 := move
    refine ER.silG rfl rfl rfl rfl rfl rfl (fun hc => Sil.fieldAddr Try.underlying74 rfl inf3 rfl) ?_  -- 6.5: t31 := fieldAddr
    refine ER.exG rfl rfl rfl rfl rfl rfl (fun hc => Exa.load flat3 (congrArg some (sel_eq hc _)) ((r10.ext h11).cell rfl)) ?_  -- 6.6: t32 := load
    refine ER.silG rfl rfl rfl rfl rfl rfl (fun hc => Sil.move rfl) ?_  -- 6.7: t33 := move
    refine ER.silG rfl rfl rfl rfl rfl rfl (fun hc => Sil.neq (congrArg some (sel_eq hc _)) (congrArg some (sel_eq hc _))) ?_  -- 6.8: t34 := binOp
    refine ER.sil rfl rfl rfl rfl (Sil.pickOr rfl rfl rfl) ?_  -- 6.9: t35 := pick
    refine ER.nil (fun w12 h12 => ?_)
    refine AQ.then ?_
    refine EC.cond rfl (fun hb1 => ?_) (fun hb1 => ?_)  -- cond 1: t35
    ·
      have hp : lnOf f n inf.lines[q.k] = false := by
        by_cases h1 : inf.lines[q.k].file = f <;> by_cases h2 : inf.lines[q.k].line = n <;> simp_all [lnOf]
      refine EC.exit ?_
      refine AQ.thenExit ?_
      refine AQ.blockHit ?_
      refine AQ.then ?_
      -- region 4  ref.go:80
      refine EC.region (fun i => [1, 1, 1].getD i 0) [0, 1, 2] rfl ?_
      refine ER.sil rfl rfl rfl rfl (Sil.move rfl) ?_  -- 4.0: t18 := move
      refine ER.sil rfl rfl rfl rfl (Sil.add rfl rfl) ?_  -- 4.1: t19 := binOp
      refine ER.sil rfl rfl rfl rfl (Sil.assign rfl) ?_  -- 4.2: t8 := assign
      refine ER.nil (fun w13 h13 => ?_)
      refine AQ.round ⟨q.k + 1, q.v⟩ [1, 2, 3, 7, 8] (by rw [← wrap_succ hlt hlm]; rfl) ⟨(((((hE.trans h6).trans e10).trans h11).trans h12).trans h13), (q3.ext ((((h6.trans e10).trans h11).trans h12).trans h13)), ?_, hlt⟩ (by simp only; omega)
      simp only [ofTo_no hlt hp]
      exact (hl.ext ((((h6.trans e10).trans h11).trans h12).trans h13))
    ·
      have hp : lnOf f n inf.lines[q.k] = true := by
        by_cases h1 : inf.lines[q.k].file = f <;> by_cases h2 : inf.lines[q.k].line = n <;> simp_all [lnOf]
      refine EC.skip ?_
      refine AQ.then ?_
      refine EC.seq ?_
      -- region 7  ref.go:85
      refine EC.region (fun i => [1, 1, 1].getD i 0) [0, 1, 2] rfl ?_
      refine ER.sil rfl rfl rfl rfl (Sil.move rfl) ?_  -- 7.0: t36 := move
      refine ER.sil rfl rfl rfl rfl (Sil.lenR Try.underlying25 rfl ((hl.ext (((h6.trans e10).trans h11).trans h12)).isS)) ?_  -- 7.1: t37 := call
      refine ER.sil rfl rfl rfl rfl (Sil.assign rfl) ?_  -- 7.2: t10 := assign
      refine ER.nil (fun w14 h14 => ?_)
      have hI := (((((hE.trans h6).trans e10).trans h11).trans h12).trans h14)
      have hlI := (hl.ext ((((h6.trans e10).trans h11).trans h12).trans h14))
      have kI3 := (q3.ext ((((h6.trans e10).trans h11).trans h12).trans h14))
      have kI9 := (r10.ext ((h11.trans h12).trans h14))
      have lI3 := kI3.lt
      have lI9 := kI9.lt
      refine AQ.then ?_
      refine EC.seq ?_
      refine EC.block ?_
      refine EC.loop (σ := Nat) (fun j => [(1, .string f), (2, .int .i64 n), (3, ptr w1.heap.size), (7, q.v), (8, .int .i64 (q.k : Int)), (9, ptr w7.heap.size), (10, .int .i64 (j : Int))]) (fun j ws => Ext w14 ws ∧ j ≤ (ofTo inf f n q.k).length ∧ AllGt (ofTo inf f n q.k) inf.lines[q.k].at_ j) (fun j => j) (ofTo inf f n q.k).length [1, 2, 3, 7, 8, 9, 10] rfl ?_ (fun j ws hF => ?_)
      · exact ⟨Ext.refl _, Nat.le_refl _, fun i h hi => absurd h (by omega)⟩
      obtain ⟨hE, hj, hgt⟩ := hF
      have q3 := kI3.ext hE
      have q9 := kI9.ext hE
      have hom : (ofTo inf f n q.k).length ≤ maxLen := by unfold maxLen; omega
      refine EC.seq ?_
      refine EC.seq ?_
      -- region 8  ref.go:86
      refine EC.draw (fun i => [1, 1, 1, 1, 1, 1, 1, 0, 1, 0, 1, 1].getD i 0) [0, 1, 2, 3, 4, 5, 6, 7, 8, 9, 10, 11] (by kernel_rfl) (by kernel_rfl) ?_
      refine ER.sil rfl rfl rfl rfl (Sil.move rfl) ?_  -- 8.0: t38 := move
      refine ER.sil rfl rfl rfl rfl (Sil.gtr rfl rfl) ?_  -- 8.1: t39 := binOp
      refine ER.sil rfl rfl rfl rfl (Sil.move rfl) ?_  -- 8.2: t40 := move
      refine ER.silG rfl rfl rfl rfl rfl rfl (fun hc => Sil.move rfl) ?_  -- 8.3: t41 := move
      refine ER.silG rfl rfl rfl rfl rfl rfl (fun hc => Sil.move rfl) ?_  -- 8.4: t42 := move
      refine ER.silG rfl rfl rfl rfl rfl rfl (fun hc => Sil.sub (congrArg some (sel_eq hc _)) rfl) ?_  -- 8.5: t43 := binOp
      refine ER.silG rfl rfl rfl rfl rfl rfl (fun hc => Sil.indexR Try.underlying25 inf3 (congrArg some (sel_eq hc _)) (congrArg some (sel_eq hc _)) (((hlI.ext hE)).isE (by have := of_decide_eq_true hc; omega)) ((by have h0 : 0 < j := (by have := of_decide_eq_true hc; omega); rw [wrap_pred hj hom h0]; omega)) ((by have h0 : 0 < j := (by have := of_decide_eq_true hc; omega); rw [wrap_pred hj hom h0]; omega))) ?_  -- 8.6: t44 := indexAddr
      refine ER.exG rfl rfl rfl rfl rfl rfl (fun hc => Exa.load flat3 (congrArg some (sel_eq hc _)) ((show World.cell? _ _ = some (Value.int .i64 ((ofTo inf f n q.k).getD (j - 1) 0)) from by have h0 : 0 < j := (by have := of_decide_eq_true hc; omega); rw [wrap_pred hj hom h0]; have h1 : j - 1 < (ofTo inf f n q.k).length := (by omega); rw [getD_get h1]; exact ((hlI.ext hE).at h1) 0 _ rfl))) ?_  -- 8.7: t45 := load
      refine ER.silG rfl rfl rfl rfl rfl rfl (fun hc => Sil.fieldAddr Try.underlying74 rfl inf3 rfl) ?_  -- 8.8: t46 := fieldAddr
      refine ER.exG rfl rfl rfl rfl rfl rfl (fun hc => Exa.load flat3 (congrArg some (sel_eq hc _)) (q9.cell rfl)) ?_  -- 8.9: t47 := load
      refine ER.silG rfl rfl rfl rfl rfl rfl (fun hc => Sil.gtr (congrArg some (sel_eq hc _)) (congrArg some (sel_eq hc _))) ?_  -- 8.10: t48 := binOp
      refine ER.sil rfl rfl rfl rfl (Sil.pickAnd rfl rfl rfl) ?_  -- 8.11: t49 := pick
      refine ER.nil (fun w15 h15 => ?_)
      refine AQ.then ?_
      refine EC.cond rfl (fun hb2 => ?_) (fun hb2 => ?_)  -- cond 2: t49
      ·
        rw [Bool.and_eq_true] at hb2
        have h0 : 0 < j := by have := of_decide_eq_true hb2.1; omega
        have hgt1 := of_decide_eq_true hb2.2
        rw [getD_get (by omega)] at hgt1
        refine EC.skip ?_
        refine AQ.then ?_
        refine EC.block ?_
        -- region 9  ref.go:87
        refine EC.region (fun i => [1, 1, 1].getD i 0) [0, 1, 2] rfl ?_
        refine ER.sil rfl rfl rfl rfl (Sil.move rfl) ?_  -- 9.0: t50 := move
        refine ER.sil rfl rfl rfl rfl (Sil.sub rfl rfl) ?_  -- 9.1: t51 := binOp
        refine ER.sil rfl rfl rfl rfl (Sil.assign rfl) ?_  -- 9.2: t10 := assign
        refine ER.nil (fun w16 h16 => ?_)
        refine AQ.blockNormal ?_
        refine AQ.round (j - 1) [1, 2, 3, 7, 8, 9, 10] (by rw [← wrap_pred hj hom h0]; rfl) ⟨((hE.trans h15).trans h16), by omega, fun i h hi => ?_⟩ (by omega)
        by_cases e : i = j - 1
        · subst e; exact hgt1
        · exact hgt i h (by omega)
      ·
        have hlow : 0 < j → ∃ h : j - 1 < (ofTo inf f n q.k).length, (ofTo inf f n q.k)[j - 1] ≤ inf.lines[q.k].at_ := fun h0 => ⟨by omega, by
          rw [decide_eq_true (by omega : (0 : Int) < (j : Int)), Bool.true_and, getD_get (by omega)] at hb2
          have := of_decide_eq_false hb2
          omega⟩
        have hins := insU_at (ofTo inf f n q.k) inf.lines[q.k].at_ j hos hj hgt hlow
        refine EC.exit ?_
        refine AQ.thenExit ?_
        refine AQ.thenExit ?_
        refine AQ.blockHit ?_
        refine AQ.then ?_
        refine EC.seq ?_
        refine EC.seq ?_
        -- region 10  ref.go:89
        refine EC.draw (fun i => [1, 1, 1, 1, 1, 1, 1, 0, 1, 0, 1, 1].getD i 0) [0, 1, 2, 3, 4, 5, 6, 7, 8, 9, 10, 11] (by kernel_rfl) (by kernel_rfl) ?_
        refine ER.sil rfl rfl rfl rfl (Sil.move rfl) ?_  -- 10.0: t52 := move
        refine ER.sil rfl rfl rfl rfl (Sil.gtr rfl rfl) ?_  -- 10.1: t53 := binOp
        refine ER.sil rfl rfl rfl rfl (Sil.move rfl) ?_  -- 10.2: t54 := move
        refine ER.silG rfl rfl rfl rfl rfl rfl (fun hc => Sil.move rfl) ?_  -- 10.3: t55 := move
        refine ER.silG rfl rfl rfl rfl rfl rfl (fun hc => Sil.move rfl) ?_  -- 10.4: t56 := move
        refine ER.silG rfl rfl rfl rfl rfl rfl (fun hc => Sil.sub (congrArg some (sel_eq hc _)) rfl) ?_  -- 10.5: t57 := binOp
        refine ER.silG rfl rfl rfl rfl rfl rfl (fun hc => Sil.indexR Try.underlying25 inf3 (congrArg some (sel_eq hc _)) (congrArg some (sel_eq hc _)) (((hlI.ext (hE.trans h15))).isE (by have := of_decide_eq_true hc; omega)) ((by have h0 : 0 < j := (by have := of_decide_eq_true hc; omega); rw [wrap_pred hj hom h0]; omega)) ((by have h0 : 0 < j := (by have := of_decide_eq_true hc; omega); rw [wrap_pred hj hom h0]; omega))) ?_  -- 10.6: t58 := indexAddr
        refine ER.exG rfl rfl rfl rfl rfl rfl (fun hc => Exa.load flat3 (congrArg some (sel_eq hc _)) ((show World.cell? _ _ = some (Value.int .i64 ((ofTo inf f n q.k).getD (j - 1) 0)) from by have h0 : 0 < j := (by have := of_decide_eq_true hc; omega); rw [wrap_pred hj hom h0]; have h1 : j - 1 < (ofTo inf f n q.k).length := (by omega); rw [getD_get h1]; exact ((hlI.ext (hE.trans h15)).at h1) 0 _ rfl))) ?_  -- 10.7: t59 := load
        refine ER.silG rfl rfl rfl rfl rfl rfl (fun hc => Sil.fieldAddr Try.underlying74 rfl inf3 rfl) ?_  -- 10.8: t60 := fieldAddr
        refine ER.exG rfl rfl rfl rfl rfl rfl (fun hc => Exa.load flat3 (congrArg some (sel_eq hc _)) ((q9.ext h15).cell rfl)) ?_  -- 10.9: t61 := load
        refine ER.silG rfl rfl rfl rfl rfl rfl (fun hc => Sil.eql (congrArg some (sel_eq hc _)) (congrArg some (sel_eq hc _))) ?_  -- 10.10: t62 := binOp
        refine ER.sil rfl rfl rfl rfl (Sil.pickAnd rfl rfl rfl) ?_  -- 10.11: t63 := pick
        refine ER.nil (fun w17 h17 => ?_)
        refine AQ.then ?_
        refine EC.cond rfl (fun hb3 => ?_) (fun hb3 => ?_)  -- cond 3: t63
        ·
          rw [Bool.and_eq_true] at hb3
          have h0 : 0 < j := by have := of_decide_eq_true hb3.1; omega
          have heq : (ofTo inf f n q.k)[j - 1] = inf.lines[q.k].at_ := by have := hb3.2; rw [getD_get (by omega)] at this; simpa using this
          have hnx : ofTo inf f n (q.k + 1) = (ofTo inf f n q.k) := by rw [ofTo_yes hlt hp, hins, if_pos ⟨h0, by rw [List.getElem?_eq_getElem (by omega), heq]⟩]
          refine EC.exit ?_
          refine AQ.thenExit ?_
          refine AQ.blockHit ?_
          refine AQ.then ?_
          -- region 4  ref.go:80
          refine EC.region (fun i => [1, 1, 1].getD i 0) [0, 1, 2] rfl ?_
          refine ER.sil rfl rfl rfl rfl (Sil.move rfl) ?_  -- 4.0: t18 := move
          refine ER.sil rfl rfl rfl rfl (Sil.add rfl rfl) ?_  -- 4.1: t19 := binOp
          refine ER.sil rfl rfl rfl rfl (Sil.assign rfl) ?_  -- 4.2: t8 := assign
          refine ER.nil (fun w18 h18 => ?_)
          refine AQ.round ⟨q.k + 1, q.v⟩ [1, 2, 3, 7, 8] (by rw [← wrap_succ hlt hlm]; rfl) ⟨hI.trans (((hE.trans h15).trans h17).trans h18), (q3.ext ((h15.trans h17).trans h18)), ?_, hlt⟩ (by simp only; omega)
          simp only [hnx]
          exact hlI.ext (((hE.trans h15).trans h17).trans h18)
        ·
          have hnx : ofTo inf f n (q.k + 1) = (ofTo inf f n q.k).take j ++ inf.lines[q.k].at_ :: (ofTo inf f n q.k).drop j := by
            rw [ofTo_yes hlt hp, hins, if_neg]
            rintro ⟨h0, he⟩
            rw [decide_eq_true (by omega : (0 : Int) < (j : Int)), Bool.true_and, getD_get (by omega)] at hb3
            rw [List.getElem?_eq_getElem (by omega)] at he
            exact absurd (Option.some.inj he) (by simpa using hb3)
          refine EC.skip ?_
          refine AQ.then ?_
          refine EC.seq ?_
          -- region 11  ref.go:92
          refine EC.region (fun i => [2, 1, 1, 1, 2, 1].getD i 0) [0, 1, 2, 3, 4, 5] rfl ?_
          refine ER.st rfl rfl rfl rfl (fun w19 h19 => Stp.buildNil Try.underlying25 inf3 (fun w20 h20 s20 r20 => ⟨h20, ?_⟩))  -- 11.0: t64 := buildSlice
          have hq64 := Nat.le_trans ((hE.trans h15).trans h17).size h19.size
          refine ER.sil rfl rfl rfl rfl (Sil.move rfl) ?_  -- 11.1: t65 := move
          refine ER.sil rfl rfl rfl rfl (Sil.move rfl) ?_  -- 11.2: t66 := move
          refine ER.sil rfl rfl rfl rfl (Sil.sliceLR Try.underlying25 inf3 rfl rfl ((hlI.ext ((((hE.trans h15).trans h17).trans h19).trans h20)).isS) (by omega) (by omega)) ?_  -- 11.3: t67 := slice
          refine ER.st rfl rfl rfl rfl (fun w21 h21 => ?_)  -- 11.4: t68 := call
          refine Stp.appendNew Try.underlying25 inf3 rfl rfl rfl (r20.ext h21) (hq64) ((LR.drop icL (hlI.ext (((((hE.trans h15).trans h17).trans h19).trans h20).trans h21)) hj).reads) (by rw [List.length_drop]; omega) (by unfold maxLen; rw [List.length_drop]; omega) (fun v22 w22 h22 o22 => ⟨h22, ?_⟩)
          refine ER.sil rfl rfl rfl rfl (Sil.assign rfl) ?_  -- 11.5: t11 := assign
          refine ER.nil (fun w23 h23 => ?_)
          have hr21 := (Ext.own o22 h23)
          have hBI := (((((((hE.trans h15).trans h17).trans h19).trans h20).trans h21).trans h22).trans h23).size
          refine AQ.then ?_
          -- region 12  ref.go:93
          refine EC.drawA (fun i => [2, 1, 1, 1, 2, 1, 0, 2, 3, 1, 3, 1].getD i 0) (by kernel_rfl) 12 rfl ?_
          refine EA.take 1 (by kernel_rfl) ?_
          intro c24
          refine EX.sil rfl rfl rfl rfl (Sil.move rfl) ?_  -- 12.1: t70 := move
          refine EA.back c24 ?_
          refine EA.take 2 (by kernel_rfl) ?_
          intro c25
          refine EX.sil rfl rfl rfl rfl (Sil.move rfl) ?_  -- 12.2: t71 := move
          refine EA.back c25 ?_
          refine EA.take 3 (by kernel_rfl) ?_
          intro c26
          refine EX.sil rfl rfl rfl rfl (Sil.sliceHR Try.underlying25 inf3 rfl rfl ((hlI.ext (((((((hE.trans h15).trans h17).trans h19).trans h20).trans h21).trans h22).trans h23)).isS) (by omega) (by omega)) ?_  -- 12.3: t72 := slice
          refine EA.back c26 ?_
          refine EA.take 5 (by kernel_rfl) ?_
          intro c27
          refine EX.sil rfl rfl rfl rfl (Sil.fieldAddr Try.underlying74 rfl inf3 rfl) ?_  -- 12.5: t74 := fieldAddr
          refine EA.back c27 ?_
          refine EA.take 6 (by kernel_rfl) ?_
          intro c28
          refine EX.ex rfl rfl rfl rfl (Exa.load flat3 rfl ((q9.ext ((((((h15.trans h17).trans h19).trans h20).trans h21).trans h22).trans h23)).cell rfl)) ?_  -- 12.6: t75 := load
          refine EA.back c28 ?_
          refine EA.take 9 (by kernel_rfl) ?_
          intro c29
          refine EX.sil rfl rfl rfl rfl (Sil.move rfl) ?_  -- 12.9: t78 := move
          refine EA.back c29 ?_
          refine EA.two 0 7 (by kernel_rfl) ?_ ?_
          ·
            intro c30
            have hz0 : w23.heap.size ≤ _ := ((Ext.refl _)).size
            refine EX.st rfl rfl rfl rfl (fun w31 h31 => Stp.buildNil Try.underlying25 inf3 (fun w32 h32 s32 r32 => ⟨h32, ?_⟩))  -- 12.0: t69 := buildSlice
            have z32 := h31.size
            have hB69 := Nat.le_trans hz0 h31.size
            refine EA.back c30 ?_
            refine EA.two 4 7 (by kernel_rfl) ?_ ?_
            ·
              intro c33
              refine EX.st rfl rfl rfl rfl (fun w34 h34 => ?_)  -- 12.4: t73 := call
              refine Stp.appendNew Try.underlying25 inf3 rfl rfl rfl (r32.ext h34) (hB69) ((LR.take icL (hlI.ext ((((((((((hE.trans h15).trans h17).trans h19).trans h20).trans h21).trans h22).trans h23).trans h31).trans h32).trans h34)) hj).reads) (by rw [List.length_take]; omega) (by unfold maxLen; rw [List.length_take]; omega) (fun v35 w35 h35 o35 => ⟨h35, ?_⟩)
              refine EA.back c33 ?_
              refine EA.only 7 (by kernel_rfl) ?_
              intro c36
              refine EX.st rfl rfl rfl rfl (fun w37 h37 => Stp.buildAll [_] Try.underlying25 inf3 rfl rfl rfl rfl rfl rfl (fun w38 h38 s38 r38 => ⟨h38, ?_⟩))  -- 12.7: t76 := buildSlice
              have z38 := h37.size
              refine EA.back c36 ?_
              refine EA.only 8 (by kernel_rfl) ?_
              intro c39
              have hzA : w23.heap.size ≤ _ := ((((((h31.trans h32).trans h34).trans h35).trans h37).trans h38)).size
              refine EX.bar rfl rfl rfl rfl (fun w40 h40 => ?_)  -- 12.8: t77 := call
              have o40 := (Ext.own o35 ((h37.trans h38).trans h40))
              refine Stp.append Try.underlying25 inf3 rfl (by decide) rfl rfl o40 (((((((h31.trans h32).trans h34).trans h35).trans h37).trans h38).trans h40).size) (Reads.of_row (n := 1) (r38.ext h40) rfl (by decide)) (by intro u hu; simp [catCells, Value.cells] at hu; subst hu; rfl) (by rw [List.length_take]; omega) (by unfold maxLen; rw [List.length_take]; omega) (fun v41 w41 o41 g41 n41 => ?_)
              have e41 := ((((((((((((((hE.trans h15).trans h17).trans h19).trans h20).trans h21).trans h22).trans h23).trans h31).trans h32).trans h34).trans h35).trans h37).trans h38).trans h40).grown g41 (fun k hk => Nat.le_trans (hBI) (o40.lt k hk).1)
              have x41_3 := (q3.ext (((((((((((((h15.trans h17).trans h19).trans h20).trans h21).trans h22).trans h23).trans h31).trans h32).trans h34).trans h35).trans h37).trans h38).trans h40)).grown g41 (own_ne o40 (by omega))
              have y41_rst := own_keep hr21 (Ext.own o22 (((((((h23.trans h31).trans h32).trans h34).trans h35).trans h37).trans h38).trans h40)) o40 g41
              have hz2 := Nat.le_trans (Nat.le_trans hzA h40.size) g41.size
              refine EA.back c39 ?_
              refine EA.only 10 (by kernel_rfl) ?_
              intro c42
              refine EX.bar rfl rfl rfl rfl (fun w43 h43 => ?_)  -- 12.10: t79 := call
              have o43 := (Ext.own o41 h43)
              refine Stp.append Try.underlying25 inf3 rfl (by decide) rfl rfl o43 (Nat.le_trans hz2 h43.size) (Reads.of_own (Ext.own y41_rst h43)) (ic1 _) (by rw [List.length_take, List.length_drop]; omega) (by unfold maxLen; rw [List.length_take, List.length_drop]; omega) (fun v44 w44 o44 g44 n44 => ?_)
              have e44 := (e41.trans h43).grown g44 (fun k hk => Nat.le_trans (hBI) (o43.lt k hk).1)
              have x44_3 := (x41_3.ext h43).grown g44 (own_ne o43 (by omega))
              have z44 : w44.ownsRow w23.heap.size 3 1 v44 ((ofTo inf f n q.k).take j ++ inf.lines[q.k].at_ :: (ofTo inf f n q.k).drop j).length (((ofTo inf f n q.k).take j ++ inf.lines[q.k].at_ :: (ofTo inf f n q.k).drop j).map (fun k : Int => [.int .i64 k])).flatten := by rw [show ((ofTo inf f n q.k).take j ++ inf.lines[q.k].at_ :: (ofTo inf f n q.k).drop j).length = ((ofTo inf f n q.k).take j).length + 1 + ((ofTo inf f n q.k).drop j).length by simp; omega, show (((ofTo inf f n q.k).take j ++ inf.lines[q.k].at_ :: (ofTo inf f n q.k).drop j).map (fun k : Int => [.int .i64 k])).flatten = (((ofTo inf f n q.k).take j).map (fun k : Int => [.int .i64 k])).flatten ++ catCells [.int .i64 inf.lines[q.k].at_] ++ (((ofTo inf f n q.k).drop j).map (fun k : Int => [.int .i64 k])).flatten by simp [catCells, Value.cells]]; exact o44
              refine EA.back c42 ?_
              refine EA.take 11 (by kernel_rfl) ?_
              intro c45
              refine EX.sil rfl rfl rfl rfl (Sil.assign rfl) ?_  -- 12.11: t7 := assign
              refine EA.back c45 ?_
              refine EA.nil (by kernel_rfl) (fun w46 h46 => ?_)
              refine AQ.blockNormal ?_
              refine AQ.then ?_
              -- region 4  ref.go:80
              refine EC.region (fun i => [1, 1, 1].getD i 0) [0, 1, 2] rfl ?_
              refine ER.sil rfl rfl rfl rfl (Sil.move rfl) ?_  -- 4.0: t18 := move
              refine ER.sil rfl rfl rfl rfl (Sil.add rfl rfl) ?_  -- 4.1: t19 := binOp
              refine ER.sil rfl rfl rfl rfl (Sil.assign rfl) ?_  -- 4.2: t8 := assign
              refine ER.nil (fun w47 h47 => ?_)
              refine AQ.round ⟨q.k + 1, _⟩ [1, 2, 3, 7, 8] (by rw [← wrap_succ hlt hlm]; rfl) ⟨hI.trans ((e44.trans h46).trans h47), (x44_3.ext (h46.trans h47)), ?_, hlt⟩ (by simp only; omega)
              simp only [hnx]
              exact LR.of_map icL (Reads.of_own (Ext.own z44 (h46.trans h47)))
            ·
              intro c48
              refine EX.st rfl rfl rfl rfl (fun w49 h49 => Stp.buildAll [_] Try.underlying25 inf3 rfl rfl rfl rfl rfl rfl (fun w50 h50 s50 r50 => ⟨h50, ?_⟩))  -- 12.7: t76 := buildSlice
              have z50 := h49.size
              refine EA.back c48 ?_
              refine EA.only 4 (by kernel_rfl) ?_
              intro c51
              refine EX.st rfl rfl rfl rfl (fun w52 h52 => ?_)  -- 12.4: t73 := call
              refine Stp.appendNew Try.underlying25 inf3 rfl rfl rfl (r32.ext ((h49.trans h50).trans h52)) (hB69) ((LR.take icL (hlI.ext ((((((((((((hE.trans h15).trans h17).trans h19).trans h20).trans h21).trans h22).trans h23).trans h31).trans h32).trans h49).trans h50).trans h52)) hj).reads) (by rw [List.length_take]; omega) (by unfold maxLen; rw [List.length_take]; omega) (fun v53 w53 h53 o53 => ⟨h53, ?_⟩)
              refine EA.back c51 ?_
              refine EA.only 8 (by kernel_rfl) ?_
              intro c54
              have hzA : w23.heap.size ≤ _ := ((((((h31.trans h32).trans h49).trans h50).trans h52).trans h53)).size
              refine EX.bar rfl rfl rfl rfl (fun w55 h55 => ?_)  -- 12.8: t77 := call
              have o55 := (Ext.own o53 h55)
              refine Stp.append Try.underlying25 inf3 rfl (by decide) rfl rfl o55 (((((((h31.trans h32).trans h49).trans h50).trans h52).trans h53).trans h55).size) (Reads.of_row (n := 1) (r50.ext ((h52.trans h53).trans h55)) rfl (by decide)) (by intro u hu; simp [catCells, Value.cells] at hu; subst hu; rfl) (by rw [List.length_take]; omega) (by unfold maxLen; rw [List.length_take]; omega) (fun v56 w56 o56 g56 n56 => ?_)
              have e56 := ((((((((((((((hE.trans h15).trans h17).trans h19).trans h20).trans h21).trans h22).trans h23).trans h31).trans h32).trans h49).trans h50).trans h52).trans h53).trans h55).grown g56 (fun k hk => Nat.le_trans (hBI) (o55.lt k hk).1)
              have x56_3 := (q3.ext (((((((((((((h15.trans h17).trans h19).trans h20).trans h21).trans h22).trans h23).trans h31).trans h32).trans h49).trans h50).trans h52).trans h53).trans h55)).grown g56 (own_ne o55 (by omega))
              have y56_rst := own_keep hr21 (Ext.own o22 (((((((h23.trans h31).trans h32).trans h49).trans h50).trans h52).trans h53).trans h55)) o55 g56
              have hz2 := Nat.le_trans (Nat.le_trans hzA h55.size) g56.size
              refine EA.back c54 ?_
              refine EA.only 10 (by kernel_rfl) ?_
              intro c57
              refine EX.bar rfl rfl rfl rfl (fun w58 h58 => ?_)  -- 12.10: t79 := call
              have o58 := (Ext.own o56 h58)
              refine Stp.append Try.underlying25 inf3 rfl (by decide) rfl rfl o58 (Nat.le_trans hz2 h58.size) (Reads.of_own (Ext.own y56_rst h58)) (ic1 _) (by rw [List.length_take, List.length_drop]; omega) (by unfold maxLen; rw [List.length_take, List.length_drop]; omega) (fun v59 w59 o59 g59 n59 => ?_)
              have e59 := (e56.trans h58).grown g59 (fun k hk => Nat.le_trans (hBI) (o58.lt k hk).1)
              have x59_3 := (x56_3.ext h58).grown g59 (own_ne o58 (by omega))
              have z59 : w59.ownsRow w23.heap.size 3 1 v59 ((ofTo inf f n q.k).take j ++ inf.lines[q.k].at_ :: (ofTo inf f n q.k).drop j).length (((ofTo inf f n q.k).take j ++ inf.lines[q.k].at_ :: (ofTo inf f n q.k).drop j).map (fun k : Int => [.int .i64 k])).flatten := by rw [show ((ofTo inf f n q.k).take j ++ inf.lines[q.k].at_ :: (ofTo inf f n q.k).drop j).length = ((ofTo inf f n q.k).take j).length + 1 + ((ofTo inf f n q.k).drop j).length by simp; omega, show (((ofTo inf f n q.k).take j ++ inf.lines[q.k].at_ :: (ofTo inf f n q.k).drop j).map (fun k : Int => [.int .i64 k])).flatten = (((ofTo inf f n q.k).take j).map (fun k : Int => [.int .i64 k])).flatten ++ catCells [.int .i64 inf.lines[q.k].at_] ++ (((ofTo inf f n q.k).drop j).map (fun k : Int => [.int .i64 k])).flatten by simp [catCells, Value.cells]]; exact o59
              refine EA.back c57 ?_
              refine EA.take 11 (by kernel_rfl) ?_
              intro c60
              refine EX.sil rfl rfl rfl rfl (Sil.assign rfl) ?_  -- 12.11: t7 := assign
              refine EA.back c60 ?_
              refine EA.nil (by kernel_rfl) (fun w61 h61 => ?_)
              refine AQ.blockNormal ?_
              refine AQ.then ?_
              -- region 4  ref.go:80
              refine EC.region (fun i => [1, 1, 1].getD i 0) [0, 1, 2] rfl ?_
              refine ER.sil rfl rfl rfl rfl (Sil.move rfl) ?_  -- 4.0: t18 := move
              refine ER.sil rfl rfl rfl rfl (Sil.add rfl rfl) ?_  -- 4.1: t19 := binOp
              refine ER.sil rfl rfl rfl rfl (Sil.assign rfl) ?_  -- 4.2: t8 := assign
              refine ER.nil (fun w62 h62 => ?_)
              refine AQ.round ⟨q.k + 1, _⟩ [1, 2, 3, 7, 8] (by rw [← wrap_succ hlt hlm]; rfl) ⟨hI.trans ((e59.trans h61).trans h62), (x59_3.ext (h61.trans h62)), ?_, hlt⟩ (by simp only; omega)
              simp only [hnx]
              exact LR.of_map icL (Reads.of_own (Ext.own z59 (h61.trans h62)))
          ·
            intro c63
            refine EX.st rfl rfl rfl rfl (fun w64 h64 => Stp.buildAll [_] Try.underlying25 inf3 rfl rfl rfl rfl rfl rfl (fun w65 h65 s65 r65 => ⟨h65, ?_⟩))  -- 12.7: t76 := buildSlice
            have z65 := h64.size
            refine EA.back c63 ?_
            refine EA.only 0 (by kernel_rfl) ?_
            intro c66
            have hz0 : w23.heap.size ≤ _ := ((h64.trans h65)).size
            refine EX.st rfl rfl rfl rfl (fun w67 h67 => Stp.buildNil Try.underlying25 inf3 (fun w68 h68 s68 r68 => ⟨h68, ?_⟩))  -- 12.0: t69 := buildSlice
            have z68 := h67.size
            have hB69 := Nat.le_trans hz0 h67.size
            refine EA.back c66 ?_
            refine EA.only 4 (by kernel_rfl) ?_
            intro c69
            refine EX.st rfl rfl rfl rfl (fun w70 h70 => ?_)  -- 12.4: t73 := call
            refine Stp.appendNew Try.underlying25 inf3 rfl rfl rfl (r68.ext h70) (hB69) ((LR.take icL (hlI.ext ((((((((((((hE.trans h15).trans h17).trans h19).trans h20).trans h21).trans h22).trans h23).trans h64).trans h65).trans h67).trans h68).trans h70)) hj).reads) (by rw [List.length_take]; omega) (by unfold maxLen; rw [List.length_take]; omega) (fun v71 w71 h71 o71 => ⟨h71, ?_⟩)
            refine EA.back c69 ?_
            refine EA.only 8 (by kernel_rfl) ?_
            intro c72
            have hzA : w23.heap.size ≤ _ := ((((((h64.trans h65).trans h67).trans h68).trans h70).trans h71)).size
            refine EX.bar rfl rfl rfl rfl (fun w73 h73 => ?_)  -- 12.8: t77 := call
            have o73 := (Ext.own o71 h73)
            refine Stp.append Try.underlying25 inf3 rfl (by decide) rfl rfl o73 (((((((h64.trans h65).trans h67).trans h68).trans h70).trans h71).trans h73).size) (Reads.of_row (n := 1) (r65.ext ((((h67.trans h68).trans h70).trans h71).trans h73)) rfl (by decide)) (by intro u hu; simp [catCells, Value.cells] at hu; subst hu; rfl) (by rw [List.length_take]; omega) (by unfold maxLen; rw [List.length_take]; omega) (fun v74 w74 o74 g74 n74 => ?_)
            have e74 := ((((((((((((((hE.trans h15).trans h17).trans h19).trans h20).trans h21).trans h22).trans h23).trans h64).trans h65).trans h67).trans h68).trans h70).trans h71).trans h73).grown g74 (fun k hk => Nat.le_trans (hBI) (o73.lt k hk).1)
            have x74_3 := (q3.ext (((((((((((((h15.trans h17).trans h19).trans h20).trans h21).trans h22).trans h23).trans h64).trans h65).trans h67).trans h68).trans h70).trans h71).trans h73)).grown g74 (own_ne o73 (by omega))
            have y74_rst := own_keep hr21 (Ext.own o22 (((((((h23.trans h64).trans h65).trans h67).trans h68).trans h70).trans h71).trans h73)) o73 g74
            have hz2 := Nat.le_trans (Nat.le_trans hzA h73.size) g74.size
            refine EA.back c72 ?_
            refine EA.only 10 (by kernel_rfl) ?_
            intro c75
            refine EX.bar rfl rfl rfl rfl (fun w76 h76 => ?_)  -- 12.10: t79 := call
            have o76 := (Ext.own o74 h76)
            refine Stp.append Try.underlying25 inf3 rfl (by decide) rfl rfl o76 (Nat.le_trans hz2 h76.size) (Reads.of_own (Ext.own y74_rst h76)) (ic1 _) (by rw [List.length_take, List.length_drop]; omega) (by unfold maxLen; rw [List.length_take, List.length_drop]; omega) (fun v77 w77 o77 g77 n77 => ?_)
            have e77 := (e74.trans h76).grown g77 (fun k hk => Nat.le_trans (hBI) (o76.lt k hk).1)
            have x77_3 := (x74_3.ext h76).grown g77 (own_ne o76 (by omega))
            have z77 : w77.ownsRow w23.heap.size 3 1 v77 ((ofTo inf f n q.k).take j ++ inf.lines[q.k].at_ :: (ofTo inf f n q.k).drop j).length (((ofTo inf f n q.k).take j ++ inf.lines[q.k].at_ :: (ofTo inf f n q.k).drop j).map (fun k : Int => [.int .i64 k])).flatten := by rw [show ((ofTo inf f n q.k).take j ++ inf.lines[q.k].at_ :: (ofTo inf f n q.k).drop j).length = ((ofTo inf f n q.k).take j).length + 1 + ((ofTo inf f n q.k).drop j).length by simp; omega, show (((ofTo inf f n q.k).take j ++ inf.lines[q.k].at_ :: (ofTo inf f n q.k).drop j).map (fun k : Int => [.int .i64 k])).flatten = (((ofTo inf f n q.k).take j).map (fun k : Int => [.int .i64 k])).flatten ++ catCells [.int .i64 inf.lines[q.k].at_] ++ (((ofTo inf f n q.k).drop j).map (fun k : Int => [.int .i64 k])).flatten by simp [catCells, Value.cells]]; exact o77
            refine EA.back c75 ?_
            refine EA.take 11 (by kernel_rfl) ?_
            intro c78
            refine EX.sil rfl rfl rfl rfl (Sil.assign rfl) ?_  -- 12.11: t7 := assign
            refine EA.back c78 ?_
            refine EA.nil (by kernel_rfl) (fun w79 h79 => ?_)
            refine AQ.blockNormal ?_
            refine AQ.then ?_
            -- region 4  ref.go:80
            refine EC.region (fun i => [1, 1, 1].getD i 0) [0, 1, 2] rfl ?_
            refine ER.sil rfl rfl rfl rfl (Sil.move rfl) ?_  -- 4.0: t18 := move
            refine ER.sil rfl rfl rfl rfl (Sil.add rfl rfl) ?_  -- 4.1: t19 := binOp
            refine ER.sil rfl rfl rfl rfl (Sil.assign rfl) ?_  -- 4.2: t8 := assign
            refine ER.nil (fun w80 h80 => ?_)
            refine AQ.round ⟨q.k + 1, _⟩ [1, 2, 3, 7, 8] (by rw [← wrap_succ hlt hlm]; rfl) ⟨hI.trans ((e77.trans h79).trans h80), (x77_3.ext (h79.trans h80)), ?_, hlt⟩ (by simp only; omega)
            simp only [hnx]
            exact LR.of_map icL (Reads.of_own (Ext.own z77 (h79.trans h80)))
  ·
    refine EC.exit ?_
    refine AQ.thenExit ?_
    refine AQ.thenExit ?_
    refine AQ.blockHit ?_
    refine AQ.then ?_
    refine EC.seq ?_
    -- region 13  ref.go:95
    refine EC.region (fun i => [1, 1].getD i 0) [0, 1] rfl ?_
    refine ER.sil rfl rfl rfl rfl (Sil.move rfl) ?_  -- 13.0: t80 := move
    refine ER.sil rfl rfl rfl rfl (Sil.assign rfl) ?_  -- 13.1: t6 := assign
    refine ER.nil (fun w81 h81 => ?_)
    refine AQ.then ?_
    refine EC.ret ?_
    refine AQ.ret1 Try.results17 rfl ?_
    have hge : q.k = inf.lines.length := by have := of_decide_eq_false hb0; omega
    have hz := (hl.ext (h6.trans h81))
    rw [hge, ofTo_all] at hz
    exact ⟨_, rfl, ((hE.trans h6).trans h81), hz⟩

end Go.Proofs.Ytcgapppamhffjaa
