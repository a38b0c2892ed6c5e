/- Locate: the reference's At. -/
import Derived.Test.YtcgapppamhffjaaRefs
namespace Go.Proofs.Ytcgapppamhffjaa
open Go.RowKit Go.XK Go.LocateLaw

theorem own1 {w : World} {base : Nat} {e : TypeId} {size n : Nat} {v : Value} {xs : List Value} (h : w.ownsRow base e size v n xs) : v.oneCell' = true := by
  obtain ⟨a, c, rfl⟩ := own_slice h
  rfl
theorem spot1 {a c : ByteArray} {b d : Int} {v : Value} (h : v.oneCell' = true) : ((Value.agg #[.string a, .int .i64 b, .string c, .int .i64 d, v]).cells.toList.all fun x => x.oneCell') = true := by
  have e : ∀ u : Value, u.oneCell' = true → ([Value.string a, .int .i64 b, .string c, .int .i64 d, u].all fun x => x.oneCell') = true := fun u hu => by
    simp only [List.all_cons, List.all_nil, hu, Bool.and_true]
    rfl
  exact e v h

-- linchpin/linchpinref42.At: parameters ['api.Image', 'int'] (free 0), results [('ResultVar.cell', 4, 43), ('ResultVar.tmp', 5)], 130 slots
set_option maxRecDepth 100000 in
theorem atr_any (cs : List Value) (inf : Inf) (p : Int) (w : World) (hi : InfC w cs inf) (hm8 : inf.inlines.length ≤ 60) :
    Calls Try.prog 8 [.agg cs.toArray, .int .i64 p].toArray w fun e w' => ∃ iv, e = .returned (.tuple #[.agg (sotC (atS inf p) iv).toArray, .bool (atB inf p)]) ∧ Ext w w' ∧ LR 6 ilC w' iv (atS inf p).inls := by
  obtain ⟨mv, hmv, hml⟩ := hi.2.1
  obtain ⟨lv, hlv, hll⟩ := hi.2.2.1
  obtain ⟨iv, hiv, hil⟩ := hi.2.2.2.2.1
  have hcl := hi.len
  have hmm := hml.max
  have hlm := hll.max
  refine calls_of Try.func8 rfl Try.ntmps8 rfl ?_
  refine EC.seq ?_
  -- region 0  ref.go:18
  refine EC.region (fun i => [2, 2, 1].getD i 0) [0, 1, 2] rfl ?_
  refine ER.st rfl rfl rfl rfl (fun w1 h1 => Stp.box rfl (fun w2 h2 s2 r2 => ⟨h2, ?_⟩))  -- 0.0: t2 := box
  have l2 := r2.lt
  refine ER.st rfl rfl rfl rfl (fun w3 h3 => Stp.alloc inf43 (fun w4 h4 s4 r4 => ⟨h4, ?_⟩))  -- 0.1: t4 := alloc
  have m4 := h3.size
  have n4 := Nat.le_trans (h1.trans h2).size h3.size
  refine ER.sil rfl rfl rfl rfl (Sil.assign rfl) ?_  -- 0.2: t5 := assign
  refine ER.nil (fun w5 h5 => ?_)
  refine AQ.then ?_
  refine EC.seq ?_
  -- region 1  ref.go:19
  refine EC.region (fun i => [0, 1, 0, 1, 1, 1, 2, 3, 1].getD i 0) [0, 1, 2, 3, 4, 5, 6, 7, 8] rfl ?_
  refine ER.ex rfl rfl rfl rfl (Exa.loadAgg (vs := cs) (by rw [hi.len]; exact agg39) rfl ((r2.ext ((h3.trans h4).trans h5)).at)) ?_  -- 1.0: t16 := load
  refine ER.sil rfl rfl rfl rfl (Sil.move rfl) ?_  -- 1.1: t17 := move
  refine ER.ex rfl rfl rfl rfl (Exa.call fok31 rfl rfl (fun wx hx => (noder_any cs inf p wx (hi.ext (((((h1.trans h2).trans h3).trans h4).trans h5).trans hx))))) ?_  -- 1.2: t18 := call
  refine ER.sil rfl rfl rfl rfl (Sil.move rfl) ?_  -- 1.3: t15 := move
  refine ER.sil rfl rfl rfl rfl (Sil.extract rfl rfl) ?_  -- 1.4: t19 := extract
  refine ER.sil rfl rfl rfl rfl (Sil.extract rfl rfl) ?_  -- 1.5: t20 := extract
  have l4 := (r4.ext h5).lt
  refine ER.st rfl rfl rfl rfl (fun w6 h6 => Stp.alloc inf61 (fun w7 h7 s7 r7 => ⟨h7, ?_⟩))  -- 1.6: t6 := alloc
  have m6 := h6.size
  refine ER.bar rfl rfl rfl rfl (fun w8 h8 => Stp.store (by kernel_rfl) rfl rfl (r7.ext h8) rfl rfl (fun w9 u9 r9 => ?_))  -- 1.7: tNone := store
  have e9 := ((h6.trans h7).trans h8).upd u9 h6.size
  refine ER.sil rfl rfl rfl rfl (Sil.assign rfl) ?_  -- 1.8: t7 := assign
  refine ER.nil (fun w10 h10 => ?_)
  refine AQ.then ?_
  refine EC.seq ?_
  refine EC.seq ?_
  -- region 2  ref.go:20
  refine EC.region (fun i => [1, 1].getD i 0) [0, 1] rfl ?_
  refine ER.sil rfl rfl rfl rfl (Sil.move rfl) ?_  -- 2.0: t21 := move
  refine ER.sil rfl rfl rfl rfl (Sil.not rfl) ?_  -- 2.1: t22 := unOp
  refine ER.nil (fun w11 h11 => ?_)
  refine AQ.then ?_
  refine EC.cond rfl (fun hb0 => ?_) (fun hb0 => ?_)  -- cond 0: t22
  ·
    refine EC.seq ?_
    -- region 3  ref.go:21
    refine EC.region (fun i => [1, 3, 1].getD i 0) [0, 1, 2] rfl ?_
    refine ER.sil rfl rfl rfl rfl (Sil.build rfl rfl) ?_  -- 3.0: t23 := build
    refine ER.bar rfl rfl rfl rfl (fun w12 h12 => Stp.store (by kernel_rfl) rfl rfl (r4.ext ((((h5.trans e9).trans h10).trans h11).trans h12)) rfl rfl (fun w13 u13 r13 => ?_))  -- 3.1: tNone := store
    have e13 := ((((((h3.trans h4).trans h5).trans e9).trans h10).trans h11).trans h12).upd u13 h3.size
    refine ER.sil rfl rfl rfl rfl (Sil.assign rfl) ?_  -- 3.2: t5 := assign
    refine ER.nil (fun w14 h14 => ?_)
    refine AQ.then ?_
    refine EC.ret ?_
    refine AQ.thenRet ?_
    refine AQ.retCT Try.results8 rfl rfl (LV.agg (r13.ext h14) agg43) ?_
    have hnb : (nodeO inf p).isSome = false := by simpa using hb0
    have hab : atB inf p = false := hnb
    rw [at_no hnb, hab]
    exact ⟨_, rfl, (((h1.trans h2).trans e13).trans h14), LR.nil _⟩
  ·
    have hnb : (nodeO inf p).isSome = true := by simpa using hb0
    refine EC.skip ?_
    refine AQ.then ?_
    refine EC.seq ?_
    -- region 4  ref.go:23
    refine EC.region (fun i => [1, 1, 0, 1, 1, 2, 3].getD i 0) [0, 1, 2, 3, 4, 5, 6] rfl ?_
    refine ER.sil rfl rfl rfl rfl (Sil.move rfl) ?_  -- 4.0: t24 := move
    refine ER.sil rfl rfl rfl rfl (Sil.fieldAddr Try.underlying61 rfl inf3 rfl) ?_  -- 4.1: t25 := fieldAddr
    refine ER.ex rfl rfl rfl rfl (Exa.load flat3 rfl ((r9.ext (h10.trans h11)).cell rfl)) ?_  -- 4.2: t26 := load
    refine ER.sil rfl rfl rfl rfl (Sil.sub rfl rfl) ?_  -- 4.3: t27 := binOp
    refine ER.sil rfl rfl rfl rfl (Sil.build rfl rfl) ?_  -- 4.4: t28 := build
    have l6 := (r9.ext (h10.trans h11)).lt
    refine ER.st rfl rfl rfl rfl (fun w15 h15 => Stp.alloc inf43 (fun w16 h16 s16 r16 => ⟨h16, ?_⟩))  -- 4.5: t8 := alloc
    have m8 := h15.size
    have n8 := Nat.le_trans (((((((h1.trans h2).trans h3).trans h4).trans h5).trans e9).trans h10).trans h11).size h15.size
    refine ER.bar rfl rfl rfl rfl (fun w17 h17 => Stp.store (by kernel_rfl) rfl rfl (r16.ext h17) rfl rfl (fun w18 u18 r18 => ?_))  -- 4.6: tNone := store
    have e18 := ((h15.trans h16).trans h17).upd u18 h15.size
    refine ER.nil (fun w19 h19 => ?_)
    refine AQ.then ?_
    refine EC.seq ?_
    refine EC.seq ?_
    -- region 5  ref.go:24
    refine EC.region (fun i => [1].getD i 0) [0] rfl ?_
    refine ER.sil rfl rfl rfl rfl (Sil.assign rfl) ?_  -- 5.0: t9 := assign
    refine ER.nil (fun w20 h20 => ?_)
    refine AQ.then ?_
    refine EC.block ?_
    refine EC.loop (σ := Nat) (fun k => [(1, .int .i64 p), (2, ptr w1.heap.size), (4, ptr w3.heap.size), (6, ptr w6.heap.size), (8, ptr w15.heap.size), (9, .int .i64 (k : Int))]) (fun k wr => Ext w wr ∧ Row wr w1.heap.size 39 cs ∧ Row wr w3.heap.size 43 (sotC sot0 (.slice none 0 0)) ∧ Row wr w6.heap.size 61 (spC (spZ (nodeO inf p))) ∧ Row wr w15.heap.size 43 [.string (funcS (markT inf (spZ (nodeO inf p)) p k)), .int .i64 (offS (spZ (nodeO inf p)) p (markT inf (spZ (nodeO inf p)) p k)), .string ByteArray.empty, .int .i64 0, (.slice none 0 0)] ∧ k ≤ inf.marks.length) (fun k => inf.marks.length - k) 0 [1, 2, 4, 6, 8, 9] rfl ?_ (fun k wr hF => ?_)
    · exact ⟨((((((((((h1.trans h2).trans h3).trans h4).trans h5).trans e9).trans h10).trans h11).trans e18).trans h19).trans h20), (r2.ext ((((((((h3.trans h4).trans h5).trans e9).trans h10).trans h11).trans e18).trans h19).trans h20)), (r4.ext ((((((h5.trans e9).trans h10).trans h11).trans e18).trans h19).trans h20)), (r9.ext ((((h10.trans h11).trans e18).trans h19).trans h20)), (r18.ext (h19.trans h20)), Nat.zero_le _⟩
    obtain ⟨hE, q2, q4, q6, q8, hk⟩ := hF
    refine EC.seq ?_
    refine EC.seq ?_
    -- region 6  ref.go:24
    refine EC.region (fun i => [1, 1, 1, 0, 1, 1].getD i 0) [0, 1, 2, 3, 4, 5] rfl ?_
    refine ER.sil rfl rfl rfl rfl (Sil.move rfl) ?_  -- 6.0: t29 := move
    refine ER.sil rfl rfl rfl rfl (Sil.fieldAddr Try.underlying39 rfl inf36 rfl) ?_  -- 6.1: t30 := fieldAddr
    refine ER.sil rfl rfl rfl rfl (Sil.fieldAddr Try.underlying36 rfl inf29 rfl) ?_  -- 6.2: t31 := fieldAddr
    refine ER.ex rfl rfl rfl rfl (Exa.load flat29 rfl ((q2).cell hmv)) ?_  -- 6.3: t32 := load
    refine ER.sil rfl rfl rfl rfl (Sil.lenR Try.underlying29 rfl (hml.isS)) ?_  -- 6.4: t33 := call
    refine ER.sil rfl rfl rfl rfl (Sil.lss rfl rfl) ?_  -- 6.5: t34 := binOp
    refine ER.nil (fun w21 h21 => ?_)
    refine AQ.then ?_
    refine EC.cond rfl (fun hb1 => ?_) (fun hb1 => ?_)  -- cond 1: t34
    ·
      have hlt : k < inf.marks.length := by have := of_decide_eq_true hb1; omega
      refine EC.skip ?_
      refine AQ.then ?_
      refine EC.seq ?_
      refine EC.block ?_
      refine EC.seq ?_
      -- region 8  ref.go:25
      refine EC.region (fun i => [1, 1, 0, 1, 1, 0, 2, 3].getD i 0) [0, 1, 2, 3, 4, 5, 6, 7] rfl ?_
      refine ER.sil rfl rfl rfl rfl (Sil.fieldAddr Try.underlying39 rfl inf36 rfl) ?_  -- 8.0: t37 := fieldAddr
      refine ER.sil rfl rfl rfl rfl (Sil.fieldAddr Try.underlying36 rfl inf29 rfl) ?_  -- 8.1: t38 := fieldAddr
      refine ER.ex rfl rfl rfl rfl (Exa.load flat29 rfl (((q2.ext h21)).cell hmv)) ?_  -- 8.2: t39 := load
      refine ER.sil rfl rfl rfl rfl (Sil.move rfl) ?_  -- 8.3: t40 := move
      refine ER.sil rfl rfl rfl rfl (Sil.indexR Try.underlying29 inf66 rfl rfl (hml.isE (by omega)) (by omega) (by omega)) ?_  -- 8.4: t41 := indexAddr
      refine ER.ex rfl rfl rfl rfl (Exa.loadAgg (vs := (mkC inf.marks[k])) agg66 rfl ((hml.at hlt).ext (hE.trans h21))) ?_  -- 8.5: t42 := load
      have l8 := (q8.ext h21).lt
      refine ER.st rfl rfl rfl rfl (fun w22 h22 => Stp.alloc inf66 (fun w23 h23 s23 r23 => ⟨h23, ?_⟩))  -- 8.6: t10 := alloc
      have m10 := h22.size
      refine ER.bar rfl rfl rfl rfl (fun w24 h24 => Stp.store (by kernel_rfl) rfl rfl (r23.ext h24) rfl rfl (fun w25 u25 r25 => ?_))  -- 8.7: tNone := store
      have e25 := ((h22.trans h23).trans h24).upd u25 h22.size
      refine ER.nil (fun w26 h26 => ?_)
      refine AQ.then ?_
      refine EC.seq ?_
      -- region 9  ref.go:26
      refine EC.region (fun i => [1, 0, 1, 1, 1, 0, 1, 0, 1, 1, 1, 1, 0, 1, 1, 1].getD i 0) [0, 1, 2, 3, 4, 5, 6, 7, 8, 9, 10, 11, 12, 13, 14, 15] rfl ?_
      refine ER.sil rfl rfl rfl rfl (Sil.fieldAddr Try.underlying66 rfl inf3 rfl) ?_  -- 9.0: t43 := fieldAddr
      refine ER.ex rfl rfl rfl rfl (Exa.load flat3 rfl ((r25.ext h26).cell rfl)) ?_  -- 9.1: t44 := load
      refine ER.sil rfl rfl rfl rfl (Sil.eql rfl rfl) ?_  -- 9.2: t45 := binOp
      refine ER.sil rfl rfl rfl rfl (Sil.move rfl) ?_  -- 9.3: t46 := move
      refine ER.silG rfl rfl rfl rfl rfl rfl (fun hc => Sil.fieldAddr Try.underlying66 rfl inf3 rfl) ?_  -- 9.4: t47 := fieldAddr
      refine ER.exG rfl rfl rfl rfl rfl rfl (fun hc => Exa.load flat3 (congrArg some (sel_eq hc _)) ((r25.ext h26).cell rfl)) ?_  -- 9.5: t48 := load
      refine ER.silG rfl rfl rfl rfl rfl rfl (fun hc => Sil.fieldAddr Try.underlying61 rfl inf3 rfl) ?_  -- 9.6: t49 := fieldAddr
      refine ER.exG rfl rfl rfl rfl rfl rfl (fun hc => Exa.load flat3 (congrArg some (sel_eq hc _)) ((q6.ext ((h21.trans e25).trans h26)).cell rfl)) ?_  -- 9.7: t50 := load
      refine ER.silG rfl rfl rfl rfl rfl rfl (fun hc => Sil.geq (congrArg some (sel_eq hc _)) (congrArg some (sel_eq hc _))) ?_  -- 9.8: t51 := binOp
      refine ER.sil rfl rfl rfl rfl (Sil.pickAnd rfl rfl rfl) ?_  -- 9.9: t52 := pick
      refine ER.sil rfl rfl rfl rfl (Sil.move rfl) ?_  -- 9.10: t53 := move
      refine ER.silG rfl rfl rfl rfl rfl rfl (fun hc => Sil.fieldAddr Try.underlying66 rfl inf3 rfl) ?_  -- 9.11: t54 := fieldAddr
      refine ER.exG rfl rfl rfl rfl rfl rfl (fun hc => Exa.load flat3 (congrArg some (sel_eq hc _)) ((r25.ext h26).cell rfl)) ?_  -- 9.12: t55 := load
      refine ER.silG rfl rfl rfl rfl rfl rfl (fun hc => Sil.move rfl) ?_  -- 9.13: t56 := move
      refine ER.silG rfl rfl rfl rfl rfl rfl (fun hc => Sil.leq (congrArg some (sel_eq hc _)) (congrArg some (sel_eq hc _))) ?_  -- 9.14: t57 := binOp
      refine ER.sil rfl rfl rfl rfl (Sil.pickAnd rfl rfl rfl) ?_  -- 9.15: t58 := pick
      refine ER.nil (fun w27 h27 => ?_)
      refine AQ.then ?_
      refine EC.cond rfl (fun hb2 => ?_) (fun hb2 => ?_)  -- cond 2: t58
      ·
        have hp : mkP (spZ (nodeO inf p)).at_ p inf.marks[k] = true := by rw [← hb2, Bool.and_assoc]; rfl
        refine EC.seq ?_
        -- region 10  ref.go:27
        refine EC.region (fun i => [1, 0, 1, 3].getD i 0) [0, 1, 2, 3] rfl ?_
        refine ER.sil rfl rfl rfl rfl (Sil.fieldAddr Try.underlying66 rfl inf9 rfl) ?_  -- 10.0: t59 := fieldAddr
        refine ER.ex rfl rfl rfl rfl (Exa.load flat9 rfl ((r25.ext (h26.trans h27)).cell rfl)) ?_  -- 10.1: t60 := load
        refine ER.sil rfl rfl rfl rfl (Sil.fieldAddr Try.underlying43 rfl inf9 rfl) ?_  -- 10.2: t61 := fieldAddr
        refine ER.bar rfl rfl rfl rfl (fun w28 h28 => Stp.storeF (by kernel_rfl) rfl rfl (q8.ext ((((h21.trans e25).trans h26).trans h27).trans h28)) (show 0 + 1 ≤ 5 from by decide) rfl (fun w29 u29 r29 => ?_))  -- 10.3: tNone := store
        have r29 := (show Row _ _ _ [_, _, _, _, _] from r29)
        have b29 := (((((hE.trans h21).trans e25).trans h26).trans h27).trans h28).upd u29 n8
        have x29_2 := u29.row (q2.ext ((((h21.trans e25).trans h26).trans h27).trans h28)) (by omega)
        have x29_4 := u29.row (q4.ext ((((h21.trans e25).trans h26).trans h27).trans h28)) (by omega)
        have x29_6 := u29.row (q6.ext ((((h21.trans e25).trans h26).trans h27).trans h28)) (by omega)
        have x29_10 := u29.row (r25.ext ((h26.trans h27).trans h28)) (by omega)
        refine ER.nil (fun w30 h30 => ?_)
        refine AQ.then ?_
        -- region 11  ref.go:28
        refine EC.region (fun i => [1, 1, 0, 1, 1, 3].getD i 0) [0, 1, 2, 3, 4, 5] rfl ?_
        refine ER.sil rfl rfl rfl rfl (Sil.move rfl) ?_  -- 11.0: t62 := move
        refine ER.sil rfl rfl rfl rfl (Sil.fieldAddr Try.underlying66 rfl inf3 rfl) ?_  -- 11.1: t63 := fieldAddr
        refine ER.ex rfl rfl rfl rfl (Exa.load flat3 rfl ((x29_10.ext h30).cell rfl)) ?_  -- 11.2: t64 := load
        refine ER.sil rfl rfl rfl rfl (Sil.sub rfl rfl) ?_  -- 11.3: t65 := binOp
        refine ER.sil rfl rfl rfl rfl (Sil.fieldAddr Try.underlying43 rfl inf3 rfl) ?_  -- 11.4: t66 := fieldAddr
        refine ER.bar rfl rfl rfl rfl (fun w31 h31 => Stp.storeF (by kernel_rfl) rfl rfl (r29.ext (h30.trans h31)) (show 1 + 1 ≤ 5 from by decide) rfl (fun w32 u32 r32 => ?_))  -- 11.5: tNone := store
        have r32 := (show Row _ _ _ [_, _, _, _, _] from r32)
        have b32 := ((b29.trans h30).trans h31).upd u32 n8
        have x32_2 := u32.row (x29_2.ext (h30.trans h31)) (by omega)
        have x32_4 := u32.row (x29_4.ext (h30.trans h31)) (by omega)
        have x32_6 := u32.row (x29_6.ext (h30.trans h31)) (by omega)
        have x32_10 := u32.row (x29_10.ext (h30.trans h31)) (by omega)
        refine ER.nil (fun w33 h33 => ?_)
        refine AQ.blockNormal ?_
        refine AQ.then ?_
        -- region 7  ref.go:24
        refine EC.region (fun i => [1, 1, 1].getD i 0) [0, 1, 2] rfl ?_
        refine ER.sil rfl rfl rfl rfl (Sil.move rfl) ?_  -- 7.0: t35 := move
        refine ER.sil rfl rfl rfl rfl (Sil.add rfl rfl) ?_  -- 7.1: t36 := binOp
        refine ER.sil rfl rfl rfl rfl (Sil.assign rfl) ?_  -- 7.2: t9 := assign
        refine ER.nil (fun w34 h34 => ?_)
        refine AQ.round (k + 1) [1, 2, 4, 6, 8, 9] (by rw [← wrap_succ hlt hmm]; rfl) ⟨((b32.trans h33).trans h34), (x32_2.ext (h33.trans h34)), (x32_4.ext (h33.trans h34)), (x32_6.ext (h33.trans h34)), ?_, hlt⟩ (by omega)
        rw [markT_yes hlt hp]
        exact (r32.ext (h33.trans h34))
      ·
        have hp : mkP (spZ (nodeO inf p)).at_ p inf.marks[k] = false := by rw [← hb2, Bool.and_assoc]; rfl
        refine EC.skip ?_
        refine AQ.blockNormal ?_
        refine AQ.then ?_
        -- region 7  ref.go:24
        refine EC.region (fun i => [1, 1, 1].getD i 0) [0, 1, 2] rfl ?_
        refine ER.sil rfl rfl rfl rfl (Sil.move rfl) ?_  -- 7.0: t35 := move
        refine ER.sil rfl rfl rfl rfl (Sil.add rfl rfl) ?_  -- 7.1: t36 := binOp
        refine ER.sil rfl rfl rfl rfl (Sil.assign rfl) ?_  -- 7.2: t9 := assign
        refine ER.nil (fun w35 h35 => ?_)
        refine AQ.round (k + 1) [1, 2, 4, 6, 8, 9] (by rw [← wrap_succ hlt hmm]; rfl) ⟨(((((hE.trans h21).trans e25).trans h26).trans h27).trans h35), (q2.ext ((((h21.trans e25).trans h26).trans h27).trans h35)), (q4.ext ((((h21.trans e25).trans h26).trans h27).trans h35)), (q6.ext ((((h21.trans e25).trans h26).trans h27).trans h35)), ?_, hlt⟩ (by omega)
        rw [markT_no hlt hp]
        exact (q8.ext ((((h21.trans e25).trans h26).trans h27).trans h35))
    ·
      have hge : k = inf.marks.length := by have := of_decide_eq_false hb1; omega
      subst hge
      rw [markT_all] at q8
      refine EC.exit ?_
      refine AQ.thenExit ?_
      refine AQ.thenExit ?_
      refine AQ.blockHit ?_
      refine AQ.then ?_
      refine EC.seq ?_
      refine EC.seq ?_
      -- region 12  ref.go:31
      refine EC.region (fun i => [1].getD i 0) [0] rfl ?_
      refine ER.sil rfl rfl rfl rfl (Sil.assign rfl) ?_  -- 12.0: t11 := assign
      refine ER.nil (fun w36 h36 => ?_)
      refine AQ.then ?_
      refine EC.block ?_
      refine EC.loop (σ := Nat) (fun k => [(1, .int .i64 p), (2, ptr w1.heap.size), (4, ptr w3.heap.size), (6, ptr w6.heap.size), (8, ptr w15.heap.size), (11, .int .i64 (k : Int))]) (fun k wr => Ext w wr ∧ Row wr w1.heap.size 39 cs ∧ Row wr w3.heap.size 43 (sotC sot0 (.slice none 0 0)) ∧ Row wr w6.heap.size 61 (spC (spZ (nodeO inf p))) ∧ Row wr w15.heap.size 43 [.string (funcS (markS inf (spZ (nodeO inf p)) p)), .int .i64 (offS (spZ (nodeO inf p)) p (markS inf (spZ (nodeO inf p)) p)), .string (fileS (lineT inf (spZ (nodeO inf p)) p k)), .int .i64 (linS (lineT inf (spZ (nodeO inf p)) p k)), (.slice none 0 0)] ∧ k ≤ inf.lines.length) (fun k => inf.lines.length - k) 0 [1, 2, 4, 6, 8, 11] rfl ?_ (fun k wr hF => ?_)
      · exact ⟨((hE.trans h21).trans h36), (q2.ext (h21.trans h36)), (q4.ext (h21.trans h36)), (q6.ext (h21.trans h36)), (q8.ext (h21.trans h36)), Nat.zero_le _⟩
      obtain ⟨hE, q2, q4, q6, q8, hk⟩ := hF
      refine EC.seq ?_
      refine EC.seq ?_
      -- region 13  ref.go:31
      refine EC.region (fun i => [1, 1, 1, 0, 1, 1].getD i 0) [0, 1, 2, 3, 4, 5] rfl ?_
      refine ER.sil rfl rfl rfl rfl (Sil.move rfl) ?_  -- 13.0: t67 := move
      refine ER.sil rfl rfl rfl rfl (Sil.fieldAddr Try.underlying39 rfl inf36 rfl) ?_  -- 13.1: t68 := fieldAddr
      refine ER.sil rfl rfl rfl rfl (Sil.fieldAddr Try.underlying36 rfl inf30 rfl) ?_  -- 13.2: t69 := fieldAddr
      refine ER.ex rfl rfl rfl rfl (Exa.load flat30 rfl ((q2).cell hlv)) ?_  -- 13.3: t70 := load
      refine ER.sil rfl rfl rfl rfl (Sil.lenR Try.underlying30 rfl (hll.isS)) ?_  -- 13.4: t71 := call
      refine ER.sil rfl rfl rfl rfl (Sil.lss rfl rfl) ?_  -- 13.5: t72 := binOp
      refine ER.nil (fun w37 h37 => ?_)
      refine AQ.then ?_
      refine EC.cond rfl (fun hb3 => ?_) (fun hb3 => ?_)  -- cond 3: t72
      ·
        have hlt : k < inf.lines.length := by have := of_decide_eq_true hb3; omega
        refine EC.skip ?_
        refine AQ.then ?_
        refine EC.seq ?_
        refine EC.block ?_
        refine EC.seq ?_
        -- region 15  ref.go:32
        refine EC.region (fun i => [1, 1, 0, 1, 1, 0, 2, 3].getD i 0) [0, 1, 2, 3, 4, 5, 6, 7] rfl ?_
        refine ER.sil rfl rfl rfl rfl (Sil.fieldAddr Try.underlying39 rfl inf36 rfl) ?_  -- 15.0: t75 := fieldAddr
        refine ER.sil rfl rfl rfl rfl (Sil.fieldAddr Try.underlying36 rfl inf30 rfl) ?_  -- 15.1: t76 := fieldAddr
        refine ER.ex rfl rfl rfl rfl (Exa.load flat30 rfl (((q2.ext h37)).cell hlv)) ?_  -- 15.2: t77 := load
        refine ER.sil rfl rfl rfl rfl (Sil.move rfl) ?_  -- 15.3: t78 := move
        refine ER.sil rfl rfl rfl rfl (Sil.indexR Try.underlying30 inf74 rfl rfl (hll.isE (by omega)) (by omega) (by omega)) ?_  -- 15.4: t79 := indexAddr
        refine ER.ex rfl rfl rfl rfl (Exa.loadAgg (vs := (lnC inf.lines[k])) agg74 rfl ((hll.at hlt).ext (hE.trans h37))) ?_  -- 15.5: t80 := load
        have l8 := (q8.ext h37).lt
        refine ER.st rfl rfl rfl rfl (fun w38 h38 => Stp.alloc inf74 (fun w39 h39 s39 r39 => ⟨h39, ?_⟩))  -- 15.6: t12 := alloc
        have m12 := h38.size
        refine ER.bar rfl rfl rfl rfl (fun w40 h40 => Stp.store (by kernel_rfl) rfl rfl (r39.ext h40) rfl rfl (fun w41 u41 r41 => ?_))  -- 15.7: tNone := store
        have e41 := ((h38.trans h39).trans h40).upd u41 h38.size
        refine ER.nil (fun w42 h42 => ?_)
        refine AQ.then ?_
        refine EC.seq ?_
        -- region 16  ref.go:33
        refine EC.region (fun i => [1, 0, 1, 0, 1, 1, 1, 0, 1, 1, 1].getD i 0) [0, 1, 2, 3, 4, 5, 6, 7, 8, 9, 10] rfl ?_
        refine ER.sil rfl rfl rfl rfl (Sil.fieldAddr Try.underlying74 rfl inf3 rfl) ?_  -- 16.0: t81 := fieldAddr
        refine ER.ex rfl rfl rfl rfl (Exa.load flat3 rfl ((r41.ext h42).cell rfl)) ?_  -- 16.1: t82 := load
        refine ER.sil rfl rfl rfl rfl (Sil.fieldAddr Try.underlying61 rfl inf3 rfl) ?_  -- 16.2: t83 := fieldAddr
        refine ER.ex rfl rfl rfl rfl (Exa.load flat3 rfl ((q6.ext ((h37.trans e41).trans h42)).cell rfl)) ?_  -- 16.3: t84 := load
        refine ER.sil rfl rfl rfl rfl (Sil.geq rfl rfl) ?_  -- 16.4: t85 := binOp
        refine ER.sil rfl rfl rfl rfl (Sil.move rfl) ?_  -- 16.5: t86 := move
        refine ER.silG rfl rfl rfl rfl rfl rfl (fun hc => Sil.fieldAddr Try.underlying74 rfl inf3 rfl) ?_  -- 16.6: t87 := fieldAddr
        refine ER.exG rfl rfl rfl rfl rfl rfl (fun hc => Exa.load flat3 (congrArg some (sel_eq hc _)) ((r41.ext h42).cell rfl)) ?_  -- 16.7: t88 := load
        refine ER.silG rfl rfl rfl rfl rfl rfl (fun hc => Sil.move rfl) ?_  -- 16.8: t89 := move
        refine ER.silG rfl rfl rfl rfl rfl rfl (fun hc => Sil.leq (congrArg some (sel_eq hc _)) (congrArg some (sel_eq hc _))) ?_  -- 16.9: t90 := binOp
        refine ER.sil rfl rfl rfl rfl (Sil.pickAnd rfl rfl rfl) ?_  -- 16.10: t91 := pick
        refine ER.nil (fun w43 h43 => ?_)
        refine AQ.then ?_
        refine EC.cond rfl (fun hb4 => ?_) (fun hb4 => ?_)  -- cond 4: t91
        ·
          have hp : lnP (spZ (nodeO inf p)).at_ p inf.lines[k] = true := hb4
          refine EC.seq ?_
          -- region 17  ref.go:34
          refine EC.region (fun i => [1, 0, 1, 3].getD i 0) [0, 1, 2, 3] rfl ?_
          refine ER.sil rfl rfl rfl rfl (Sil.fieldAddr Try.underlying74 rfl inf9 rfl) ?_  -- 17.0: t92 := fieldAddr
          refine ER.ex rfl rfl rfl rfl (Exa.load flat9 rfl ((r41.ext (h42.trans h43)).cell rfl)) ?_  -- 17.1: t93 := load
          refine ER.sil rfl rfl rfl rfl (Sil.fieldAddr Try.underlying43 rfl inf9 rfl) ?_  -- 17.2: t94 := fieldAddr
          refine ER.bar rfl rfl rfl rfl (fun w44 h44 => Stp.storeF (by kernel_rfl) rfl rfl (q8.ext ((((h37.trans e41).trans h42).trans h43).trans h44)) (show 2 + 1 ≤ 5 from by decide) rfl (fun w45 u45 r45 => ?_))  -- 17.3: tNone := store
          have r45 := (show Row _ _ _ [_, _, _, _, _] from r45)
          have b45 := (((((hE.trans h37).trans e41).trans h42).trans h43).trans h44).upd u45 n8
          have x45_2 := u45.row (q2.ext ((((h37.trans e41).trans h42).trans h43).trans h44)) (by omega)
          have x45_4 := u45.row (q4.ext ((((h37.trans e41).trans h42).trans h43).trans h44)) (by omega)
          have x45_6 := u45.row (q6.ext ((((h37.trans e41).trans h42).trans h43).trans h44)) (by omega)
          have x45_12 := u45.row (r41.ext ((h42.trans h43).trans h44)) (by omega)
          refine ER.nil (fun w46 h46 => ?_)
          refine AQ.then ?_
          -- region 18  ref.go:35
          refine EC.region (fun i => [1, 0, 1, 3].getD i 0) [0, 1, 2, 3] rfl ?_
          refine ER.sil rfl rfl rfl rfl (Sil.fieldAddr Try.underlying74 rfl inf3 rfl) ?_  -- 18.0: t95 := fieldAddr
          refine ER.ex rfl rfl rfl rfl (Exa.load flat3 rfl ((x45_12.ext h46).cell rfl)) ?_  -- 18.1: t96 := load
          refine ER.sil rfl rfl rfl rfl (Sil.fieldAddr Try.underlying43 rfl inf3 rfl) ?_  -- 18.2: t97 := fieldAddr
          refine ER.bar rfl rfl rfl rfl (fun w47 h47 => Stp.storeF (by kernel_rfl) rfl rfl (r45.ext (h46.trans h47)) (show 3 + 1 ≤ 5 from by decide) rfl (fun w48 u48 r48 => ?_))  -- 18.3: tNone := store
          have r48 := (show Row _ _ _ [_, _, _, _, _] from r48)
          have b48 := ((b45.trans h46).trans h47).upd u48 n8
          have x48_2 := u48.row (x45_2.ext (h46.trans h47)) (by omega)
          have x48_4 := u48.row (x45_4.ext (h46.trans h47)) (by omega)
          have x48_6 := u48.row (x45_6.ext (h46.trans h47)) (by omega)
          have x48_12 := u48.row (x45_12.ext (h46.trans h47)) (by omega)
          refine ER.nil (fun w49 h49 => ?_)
          refine AQ.blockNormal ?_
          refine AQ.then ?_
          -- region 14  ref.go:31
          refine EC.region (fun i => [1, 1, 1].getD i 0) [0, 1, 2] rfl ?_
          refine ER.sil rfl rfl rfl rfl (Sil.move rfl) ?_  -- 14.0: t73 := move
          refine ER.sil rfl rfl rfl rfl (Sil.add rfl rfl) ?_  -- 14.1: t74 := binOp
          refine ER.sil rfl rfl rfl rfl (Sil.assign rfl) ?_  -- 14.2: t11 := assign
          refine ER.nil (fun w50 h50 => ?_)
          refine AQ.round (k + 1) [1, 2, 4, 6, 8, 11] (by rw [← wrap_succ hlt hlm]; rfl) ⟨((b48.trans h49).trans h50), (x48_2.ext (h49.trans h50)), (x48_4.ext (h49.trans h50)), (x48_6.ext (h49.trans h50)), ?_, hlt⟩ (by omega)
          rw [lineT_yes hlt hp]
          exact (r48.ext (h49.trans h50))
        ·
          have hp : lnP (spZ (nodeO inf p)).at_ p inf.lines[k] = false := hb4
          refine EC.skip ?_
          refine AQ.blockNormal ?_
          refine AQ.then ?_
          -- region 14  ref.go:31
          refine EC.region (fun i => [1, 1, 1].getD i 0) [0, 1, 2] rfl ?_
          refine ER.sil rfl rfl rfl rfl (Sil.move rfl) ?_  -- 14.0: t73 := move
          refine ER.sil rfl rfl rfl rfl (Sil.add rfl rfl) ?_  -- 14.1: t74 := binOp
          refine ER.sil rfl rfl rfl rfl (Sil.assign rfl) ?_  -- 14.2: t11 := assign
          refine ER.nil (fun w51 h51 => ?_)
          refine AQ.round (k + 1) [1, 2, 4, 6, 8, 11] (by rw [← wrap_succ hlt hlm]; rfl) ⟨(((((hE.trans h37).trans e41).trans h42).trans h43).trans h51), (q2.ext ((((h37.trans e41).trans h42).trans h43).trans h51)), (q4.ext ((((h37.trans e41).trans h42).trans h43).trans h51)), (q6.ext ((((h37.trans e41).trans h42).trans h43).trans h51)), ?_, hlt⟩ (by omega)
          rw [lineT_no hlt hp]
          exact (q8.ext ((((h37.trans e41).trans h42).trans h43).trans h51))
      ·
        have hge : k = inf.lines.length := by have := of_decide_eq_false hb3; omega
        subst hge
        rw [lineT_all] at q8
        refine EC.exit ?_
        refine AQ.thenExit ?_
        refine AQ.thenExit ?_
        refine AQ.blockHit ?_
        refine AQ.then ?_
        refine EC.seq ?_
        refine EC.seq ?_
        -- region 19  ref.go:38
        refine EC.region (fun i => [1, 1, 0, 1, 1, 1].getD i 0) [0, 1, 2, 3, 4, 5] rfl ?_
        refine ER.sil rfl rfl rfl rfl (Sil.fieldAddr Try.underlying39 rfl inf36 rfl) ?_  -- 19.0: t98 := fieldAddr
        refine ER.sil rfl rfl rfl rfl (Sil.fieldAddr Try.underlying36 rfl inf32 rfl) ?_  -- 19.1: t99 := fieldAddr
        refine ER.ex rfl rfl rfl rfl (Exa.load flat32 rfl (((q2.ext h37)).cell hiv)) ?_  -- 19.2: t100 := load
        refine ER.sil rfl rfl rfl rfl (Sil.lenR Try.underlying32 rfl (hil.isS)) ?_  -- 19.3: t101 := call
        refine ER.sil rfl rfl rfl rfl (Sil.sub rfl rfl) ?_  -- 19.4: t102 := binOp
        rw [show IntKind.i64.wrap ((inf.inlines.length : Int) - 1) = (inf.inlines.length : Int) - 1 from by rw [IntWalk.i64_in _ (by omega)]]
        refine ER.sil rfl rfl rfl rfl (Sil.assign rfl) ?_  -- 19.5: t13 := assign
        refine ER.nil (fun w52 h52 => ?_)
        have hwL := ((hE.trans h37).trans h52).size
        have l8L := (q8.ext (h37.trans h52)).lt
        refine AQ.then ?_
        refine EC.block ?_
        refine EC.loop (σ := VarS) (fun q => [(1, .int .i64 p), (2, ptr w1.heap.size), (4, ptr w3.heap.size), (6, ptr w6.heap.size), (8, ptr w15.heap.size), (13, .int .i64 ((q.k : Int) - 1))]) (fun q wr => Ext w wr ∧ Row wr w1.heap.size 39 cs ∧ Row wr w3.heap.size 43 (sotC sot0 (.slice none 0 0)) ∧ Row wr w6.heap.size 61 (spC (spZ (nodeO inf p))) ∧ Row wr w15.heap.size 43 [.string (funcS (markS inf (spZ (nodeO inf p)) p)), .int .i64 (offS (spZ (nodeO inf p)) p (markS inf (spZ (nodeO inf p)) p)), .string (fileS (lineS inf (spZ (nodeO inf p)) p)), .int .i64 (linS (lineS inf (spZ (nodeO inf p)) p)), q.v] ∧ q.k ≤ inf.inlines.length ∧ w52.heap.size ≤ wr.heap.size ∧ wr.ownsRow w52.heap.size 57 6 q.v (inlT inf p q.k).length ((inlT inf p q.k).map ilC).flatten) (fun q => q.k) ⟨inf.inlines.length, .slice none 0 0⟩ [1, 2, 4, 6, 8, 13] rfl ?_ (fun q wr hF => ?_)
        · exact ⟨((hE.trans h37).trans h52), (q2.ext (h37.trans h52)), (q4.ext (h37.trans h52)), (q6.ext (h37.trans h52)), (q8.ext (h37.trans h52)), Nat.le_refl _, Nat.le_refl _, by rw [inlT_all]; exact World.ownsRow_nil _ _ _ _⟩
        obtain ⟨hE, q2, q4, q6, q8, hk, hz, out⟩ := hF
        have hol := inlT_len inf p q.k
        refine EC.seq ?_
        refine EC.seq ?_
        -- region 20  ref.go:38
        refine EC.region (fun i => [1, 1].getD i 0) [0, 1] rfl ?_
        refine ER.sil rfl rfl rfl rfl (Sil.move rfl) ?_  -- 20.0: t103 := move
        refine ER.sil rfl rfl rfl rfl (Sil.geq rfl rfl) ?_  -- 20.1: t104 := binOp
        refine ER.nil (fun w53 h53 => ?_)
        refine AQ.then ?_
        refine EC.cond rfl (fun hb5 => ?_) (fun hb5 => ?_)  -- cond 5: t104
        ·
          have h0 : 0 < q.k := by have := of_decide_eq_true hb5; omega
          have hlt : q.k - 1 < inf.inlines.length := by omega
          refine EC.skip ?_
          refine AQ.then ?_
          refine EC.seq ?_
          refine EC.block ?_
          refine EC.seq ?_
          -- region 22  ref.go:39
          refine EC.region (fun i => [1, 1, 0, 1, 1, 0, 2, 3].getD i 0) [0, 1, 2, 3, 4, 5, 6, 7] rfl ?_
          refine ER.sil rfl rfl rfl rfl (Sil.fieldAddr Try.underlying39 rfl inf36 rfl) ?_  -- 22.0: t107 := fieldAddr
          refine ER.sil rfl rfl rfl rfl (Sil.fieldAddr Try.underlying36 rfl inf32 rfl) ?_  -- 22.1: t108 := fieldAddr
          refine ER.ex rfl rfl rfl rfl (Exa.load flat32 rfl (((q2.ext h53)).cell hiv)) ?_  -- 22.2: t109 := load
          refine ER.sil rfl rfl rfl rfl (Sil.move rfl) ?_  -- 22.3: t110 := move
          refine ER.sil rfl rfl rfl rfl (Sil.indexR Try.underlying32 inf57 rfl rfl (hil.isE (by omega)) (by omega) (by omega)) ?_  -- 22.4: t111 := indexAddr
          rw [show ((q.k : Int) - 1).toNat = q.k - 1 by omega]
          refine ER.ex rfl rfl rfl rfl (Exa.loadAgg (vs := (ilC inf.inlines[q.k - 1])) agg57 rfl ((hil.at hlt).ext (hE.trans h53))) ?_  -- 22.5: t112 := load
          have l8 := (q8.ext h53).lt
          refine ER.st rfl rfl rfl rfl (fun w54 h54 => Stp.alloc inf57 (fun w55 h55 s55 r55 => ⟨h55, ?_⟩))  -- 22.6: t14 := alloc
          have m14 := h54.size
          refine ER.bar rfl rfl rfl rfl (fun w56 h56 => Stp.store (by kernel_rfl) rfl rfl (r55.ext h56) rfl rfl (fun w57 u57 r57 => ?_))  -- 22.7: tNone := store
          have e57 := ((h54.trans h55).trans h56).upd u57 h54.size
          refine ER.nil (fun w58 h58 => ?_)
          refine AQ.then ?_
          refine EC.seq ?_
          -- region 23  ref.go:40
          refine EC.region (fun i => [1, 0, 1, 1, 1, 1, 1, 0, 1, 1].getD i 0) [0, 1, 2, 3, 4, 5, 6, 7, 8, 9] rfl ?_
          refine ER.sil rfl rfl rfl rfl (Sil.fieldAddr Try.underlying57 rfl inf3 rfl) ?_  -- 23.0: t113 := fieldAddr
          refine ER.ex rfl rfl rfl rfl (Exa.load flat3 rfl ((r57.ext h58).cell rfl)) ?_  -- 23.1: t114 := load
          refine ER.sil rfl rfl rfl rfl (Sil.move rfl) ?_  -- 23.2: t115 := move
          refine ER.sil rfl rfl rfl rfl (Sil.leq rfl rfl) ?_  -- 23.3: t116 := binOp
          refine ER.sil rfl rfl rfl rfl (Sil.move rfl) ?_  -- 23.4: t117 := move
          refine ER.silG rfl rfl rfl rfl rfl rfl (fun hc => Sil.move rfl) ?_  -- 23.5: t118 := move
          refine ER.silG rfl rfl rfl rfl rfl rfl (fun hc => Sil.fieldAddr Try.underlying57 rfl inf3 rfl) ?_  -- 23.6: t119 := fieldAddr
          refine ER.exG rfl rfl rfl rfl rfl rfl (fun hc => Exa.load flat3 (congrArg some (sel_eq hc _)) ((r57.ext h58).cell rfl)) ?_  -- 23.7: t120 := load
          refine ER.silG rfl rfl rfl rfl rfl rfl (fun hc => Sil.lss (congrArg some (sel_eq hc _)) (congrArg some (sel_eq hc _))) ?_  -- 23.8: t121 := binOp
          refine ER.sil rfl rfl rfl rfl (Sil.pickAnd rfl rfl rfl) ?_  -- 23.9: t122 := pick
          refine ER.nil (fun w59 h59 => ?_)
          refine AQ.then ?_
          refine EC.cond rfl (fun hb6 => ?_) (fun hb6 => ?_)  -- cond 6: t122
          ·
            have hp : ilP p inf.inlines[q.k - 1] = true := hb6
            -- region 24  ref.go:41
            refine EC.region (fun i => [1, 0, 0, 2, 3, 1, 3].getD i 0) [0, 1, 2, 3, 4, 5, 6] rfl ?_
            refine ER.sil rfl rfl rfl rfl (Sil.fieldAddr Try.underlying43 rfl inf32 rfl) ?_  -- 24.0: t123 := fieldAddr
            refine ER.ex rfl rfl rfl rfl (Exa.load flat32 rfl ((q8.ext (((h53.trans e57).trans h58).trans h59)).cell rfl)) ?_  -- 24.1: t124 := load
            refine ER.ex rfl rfl rfl rfl (Exa.loadAgg (vs := (ilC inf.inlines[q.k - 1])) agg57 rfl ((r57.ext (h58.trans h59)).at)) ?_  -- 24.2: t125 := load
            refine ER.st rfl rfl rfl rfl (fun w60 h60 => Stp.buildAll [_] Try.underlying32 inf57 rfl rfl rfl rfl rfl rfl (fun w61 h61 s61 r61 => ⟨h61, ?_⟩))  -- 24.3: t126 := buildSlice
            have hz1 := Nat.le_trans hz (((((h53.trans e57).trans h58).trans h59).trans h60).trans h61).size
            refine ER.bar rfl rfl rfl rfl (fun w62 h62 => ?_)  -- 24.4: t127 := call
            have o62 := (Ext.own out ((((((h53.trans e57).trans h58).trans h59).trans h60).trans h61).trans h62))
            refine Stp.append Try.underlying32 inf57 rfl (by decide) rfl rfl o62 (Nat.le_trans hz ((((((h53.trans e57).trans h58).trans h59).trans h60).trans h61).trans h62).size) (Reads.of_row (r61.ext h62) rfl (by decide)) (by intro q hq; simp [catCells, Value.cells] at hq; exact il1 _ q hq) (by first | omega | (simp only [List.length_append, List.length_cons, List.length_nil]; omega)) (by unfold maxLen; first | omega | (simp only [List.length_append, List.length_cons, List.length_nil]; omega)) (fun v63 w63 o63 g63 n63 => ?_)
            have e63 := (((((((hE.trans h53).trans e57).trans h58).trans h59).trans h60).trans h61).trans h62).grown g63 (fun k hk => Nat.le_trans (hwL) (o62.lt k hk).1)
            have x63_2 := (q2.ext ((((((h53.trans e57).trans h58).trans h59).trans h60).trans h61).trans h62)).grown g63 (own_ne o62 (by omega))
            have x63_4 := (q4.ext ((((((h53.trans e57).trans h58).trans h59).trans h60).trans h61).trans h62)).grown g63 (own_ne o62 (by omega))
            have x63_6 := (q6.ext ((((((h53.trans e57).trans h58).trans h59).trans h60).trans h61).trans h62)).grown g63 (own_ne o62 (by omega))
            have x63_8 := (q8.ext ((((((h53.trans e57).trans h58).trans h59).trans h60).trans h61).trans h62)).grown g63 (own_ne o62 (by omega))
            have z63 : w63.ownsRow w52.heap.size 57 6 v63 (inlT inf p (q.k - 1)).length ((inlT inf p (q.k - 1)).map ilC).flatten := by rw [inlT_yes h0 hlt hp, List.length_append, List.map_append, List.flatten_append]; exact o63
            have hz2 := Nat.le_trans (Nat.le_trans hz1 h62.size) g63.size
            obtain ⟨qa, qc, rfl, _⟩ := (Reads.of_own z63).isS
            refine ER.sil rfl rfl rfl rfl (Sil.fieldAddr Try.underlying43 rfl inf32 rfl) ?_  -- 24.5: t128 := fieldAddr
            refine ER.bar rfl rfl rfl rfl (fun w64 h64 => Stp.storeF (by kernel_rfl) rfl rfl (x63_8.ext h64) (show 4 + 1 ≤ 5 from by decide) rfl (fun w65 u65 r65 => ?_))  -- 24.6: tNone := store
            have r65 := (show Row _ _ _ [_, _, _, _, _] from r65)
            have b65 := (e63.trans h64).upd u65 n8
            have x65_2 := u65.row (x63_2.ext h64) (by omega)
            have x65_4 := u65.row (x63_4.ext h64) (by omega)
            have x65_6 := u65.row (x63_6.ext h64) (by omega)
            have y65_out := u65.own (Ext.own z63 h64) (by omega)
            have hz3 := Nat.le_trans (Nat.le_trans hz2 h64.size) (Nat.le_of_eq u65.size.symm)
            refine ER.nil (fun w66 h66 => ?_)
            refine AQ.blockNormal ?_
            refine AQ.then ?_
            -- region 21  ref.go:38
            refine EC.region (fun i => [1, 1, 1].getD i 0) [0, 1, 2] rfl ?_
            refine ER.sil rfl rfl rfl rfl (Sil.move rfl) ?_  -- 21.0: t105 := move
            refine ER.sil rfl rfl rfl rfl (Sil.sub rfl rfl) ?_  -- 21.1: t106 := binOp
            rw [show IntKind.i64.wrap ((q.k : Int) - 1 - 1) = ((q.k - 1 : Nat) : Int) - 1 from by rw [IntWalk.i64_in _ (by omega)]; omega]
            refine ER.sil rfl rfl rfl rfl (Sil.assign rfl) ?_  -- 21.2: t13 := assign
            refine ER.nil (fun w67 h67 => ?_)
            exact AQ.round ⟨q.k - 1, _⟩ [1, 2, 4, 6, 8, 13] rfl ⟨((b65.trans h66).trans h67), (x65_2.ext (h66.trans h67)), (x65_4.ext (h66.trans h67)), (x65_6.ext (h66.trans h67)), (r65.ext (h66.trans h67)), by simp only; omega, Nat.le_trans hz3 (h66.trans h67).size, (Ext.own y65_out (h66.trans h67))⟩ (by simp only; omega)
          ·
            have hp : ilP p inf.inlines[q.k - 1] = false := hb6
            refine EC.skip ?_
            refine AQ.blockNormal ?_
            refine AQ.then ?_
            -- region 21  ref.go:38
            refine EC.region (fun i => [1, 1, 1].getD i 0) [0, 1, 2] rfl ?_
            refine ER.sil rfl rfl rfl rfl (Sil.move rfl) ?_  -- 21.0: t105 := move
            refine ER.sil rfl rfl rfl rfl (Sil.sub rfl rfl) ?_  -- 21.1: t106 := binOp
            rw [show IntKind.i64.wrap ((q.k : Int) - 1 - 1) = ((q.k - 1 : Nat) : Int) - 1 from by rw [IntWalk.i64_in _ (by omega)]; omega]
            refine ER.sil rfl rfl rfl rfl (Sil.assign rfl) ?_  -- 21.2: t13 := assign
            refine ER.nil (fun w68 h68 => ?_)
            exact AQ.round ⟨q.k - 1, q.v⟩ [1, 2, 4, 6, 8, 13] rfl ⟨(((((hE.trans h53).trans e57).trans h58).trans h59).trans h68), (q2.ext ((((h53.trans e57).trans h58).trans h59).trans h68)), (q4.ext ((((h53.trans e57).trans h58).trans h59).trans h68)), (q6.ext ((((h53.trans e57).trans h58).trans h59).trans h68)), (q8.ext ((((h53.trans e57).trans h58).trans h59).trans h68)), by simp only; omega, Nat.le_trans hz ((((h53.trans e57).trans h58).trans h59).trans h68).size, by simp only [inlT_no h0 hlt hp]; exact (Ext.own out ((((h53.trans e57).trans h58).trans h59).trans h68))⟩ (by simp only; omega)
        ·
          refine EC.exit ?_
          refine AQ.thenExit ?_
          refine AQ.thenExit ?_
          refine AQ.blockHit ?_
          refine AQ.then ?_
          refine EC.seq ?_
          -- region 25  ref.go:44
          refine EC.region (fun i => [0, 3, 1].getD i 0) [0, 1, 2] rfl ?_
          refine ER.ex rfl rfl rfl rfl (Exa.loadAgg (vs := [_, _, _, _, _]) agg43 rfl ((q8.ext h53).at)) ?_  -- 25.0: t129 := load
          refine ER.bar rfl rfl rfl rfl (fun w69 h69 => Stp.store (by kernel_rfl) rfl rfl (q4.ext (h53.trans h69)) rfl (spot1 (own1 (Ext.own out h53))) (fun w70 u70 r70 => ?_))  -- 25.1: tNone := store
          have b70 := ((hE.trans h53).trans h69).upd u70 n4
          have y70_out := u70.own (Ext.own out (h53.trans h69)) (by omega)
          refine ER.sil rfl rfl rfl rfl (Sil.assign rfl) ?_  -- 25.2: t5 := assign
          refine ER.nil (fun w71 h71 => ?_)
          refine AQ.then ?_
          refine EC.ret ?_
          refine AQ.retCT Try.results8 rfl rfl (LV.agg (r70.ext h71) agg43) ?_
          have hge : q.k = 0 := by have := of_decide_eq_false hb5; omega
          have hat : atS inf p = ⟨funcS (markS inf (spZ (nodeO inf p)) p), offS (spZ (nodeO inf p)) p (markS inf (spZ (nodeO inf p)) p), fileS (lineS inf (spZ (nodeO inf p)) p), linS (lineS inf (spZ (nodeO inf p)) p), inlT inf p q.k⟩ := by rw [hge]; exact at_eq hnb
          have hab : atB inf p = true := hnb
          rw [hat, hab]
          exact ⟨_, rfl, (b70.trans h71), LR.of_map ilL (Reads.of_own (Ext.own y70_out h71))⟩

end Go.Proofs.Ytcgapppamhffjaa
