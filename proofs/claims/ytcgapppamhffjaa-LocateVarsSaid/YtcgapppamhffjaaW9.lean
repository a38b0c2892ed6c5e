/- Locate: At. -/
import Derived.Test.YtcgapppamhffjaaW8
namespace Go.Proofs.Ytcgapppamhffjaa
open Go.RowKit Go.XK Go.LocateLaw

-- linchpin/locate.At: parameters ['api.Image', 'int'] (free 0), results [('ResultVar.cell', 4, 43), ('ResultVar.tmp', 5)], 74 slots
set_option maxRecDepth 100000 in
theorem at_any (cs : List Value) (inf : Inf) (p : Int) (w : World) (hi : InfC w cs inf) (hm8 : inf.inlines.length ≤ 60) :
    Calls Try.prog 7 [.agg cs.toArray, .int .i64 p].toArray w fun e w' => ∃ iv, e = .returned (.tuple #[.agg (sotC (atS inf p) iv).toArray, .bool (atB inf p)]) ∧ Ext w w' ∧ LR 6 ilC w' iv (atS inf p).inls := by
  obtain ⟨mv, hmv, hml⟩ := hi.2.1
  obtain ⟨lv, hlv, hll⟩ := hi.2.2.1
  obtain ⟨iv, hiv, hil⟩ := hi.2.2.2.2.1
  have hsl : (inf.inlines.filter (ilP p)).length ≤ 60 := Nat.le_trans (List.length_filter_le ..) hm8
  refine calls_of Try.func7 rfl Try.ntmps7 rfl ?_
  refine EC.seq ?_
  -- region 0  locate.go:40
  refine EC.region (fun i => [2, 2, 2, 1].getD i 0) [0, 1, 2, 3] rfl ?_
  refine ER.st rfl rfl rfl rfl (fun w1 h1 => Stp.box rfl (fun w2 h2 s2 r2 => ⟨h2, ?_⟩))  -- 0.0: t2 := box
  refine ER.st rfl rfl rfl rfl (fun w3 h3 => Stp.box rfl (fun w4 h4 s4 r4 => ⟨h4, ?_⟩))  -- 0.1: t3 := box
  refine ER.st rfl rfl rfl rfl (fun w5 h5 => Stp.alloc inf43 (fun w6 h6 s6 r6 => ⟨h6, ?_⟩))  -- 0.2: t4 := alloc
  have hB4 := Nat.le_trans (((h1.trans h2).trans h3).trans h4).size h5.size
  refine ER.sil rfl rfl rfl rfl (Sil.assign rfl) ?_  -- 0.3: t5 := assign
  refine ER.nil (fun w7 h7 => ?_)
  refine AQ.then ?_
  refine EC.seq ?_
  -- region 1  locate.go:41
  refine EC.region (fun i => [0, 0, 0, 1, 1, 1, 2, 3, 1].getD i 0) [0, 1, 2, 3, 4, 5, 6, 7, 8] rfl ?_
  refine ER.ex rfl rfl rfl rfl (Exa.loadAgg (vs := cs) (by rw [hi.len]; exact agg39) rfl ((r2.ext ((((h3.trans h4).trans h5).trans h6).trans h7)).at)) ?_  -- 1.0: t15 := load
  refine ER.ex rfl rfl rfl rfl (Exa.load flat3 rfl ((r4.ext ((h5.trans h6).trans h7)).cell rfl)) ?_  -- 1.1: t16 := load
  refine ER.ex rfl rfl rfl rfl (Exa.call fok19 rfl rfl (fun wx hx => (node_any cs inf p wx (hi.ext (((((((h1.trans h2).trans h3).trans h4).trans h5).trans h6).trans h7).trans hx))))) ?_  -- 1.2: t17 := call
  refine ER.sil rfl rfl rfl rfl (Sil.move rfl) ?_  -- 1.3: t14 := move
  refine ER.sil rfl rfl rfl rfl (Sil.extract rfl rfl) ?_  -- 1.4: t18 := extract
  refine ER.sil rfl rfl rfl rfl (Sil.extract rfl rfl) ?_  -- 1.5: t19 := extract
  refine ER.st rfl rfl rfl rfl (fun w8 h8 => Stp.alloc inf61 (fun w9 h9 s9 r9 => ⟨h9, ?_⟩))  -- 1.6: t6 := alloc
  refine ER.bar rfl rfl rfl rfl (fun w10 h10 => Stp.store (by kernel_rfl) rfl rfl (r9.ext h10) rfl rfl (fun w11 u11 r11 => ?_))  -- 1.7: tNone := store
  have e11 := ((h8.trans h9).trans h10).upd u11 h8.size
  refine ER.sil rfl rfl rfl rfl (Sil.assign rfl) ?_  -- 1.8: t7 := assign
  refine ER.nil (fun w12 h12 => ?_)
  refine AQ.then ?_
  refine EC.seq ?_
  refine EC.seq ?_
  -- region 2  locate.go:42
  refine EC.region (fun i => [1, 1].getD i 0) [0, 1] rfl ?_
  refine ER.sil rfl rfl rfl rfl (Sil.move rfl) ?_  -- 2.0: t20 := move
  refine ER.sil rfl rfl rfl rfl (Sil.not rfl) ?_  -- 2.1: t21 := unOp
  refine ER.nil (fun w13 h13 => ?_)
  refine AQ.then ?_
  refine EC.cond rfl (fun hb0 => ?_) (fun hb0 => ?_)  -- cond 0: t21
  ·
    refine EC.seq ?_
    -- region 3  locate.go:43
    refine EC.region (fun i => [1, 3, 1].getD i 0) [0, 1, 2] rfl ?_
    refine ER.sil rfl rfl rfl rfl (Sil.build rfl rfl) ?_  -- 3.0: t22 := build
    refine ER.bar rfl rfl rfl rfl (fun w14 h14 => Stp.store (by kernel_rfl) rfl rfl (r6.ext ((((h7.trans e11).trans h12).trans h13).trans h14)) rfl rfl (fun w15 u15 r15 => ?_))  -- 3.1: tNone := store
    have e15 := ((((((h5.trans h6).trans h7).trans e11).trans h12).trans h13).trans h14).upd u15 h5.size
    refine ER.sil rfl rfl rfl rfl (Sil.assign rfl) ?_  -- 3.2: t5 := assign
    refine ER.nil (fun w16 h16 => ?_)
    refine AQ.then ?_
    refine EC.ret ?_
    refine AQ.thenRet ?_
    refine AQ.retCT Try.results7 rfl rfl (LV.agg (r15.ext h16) agg43) ?_
    have hnb : (nodeO inf p).isSome = false := by simpa using hb0
    have hab : atB inf p = false := hnb
    rw [at_no hnb, hab]
    exact ⟨_, rfl, (((((h1.trans h2).trans h3).trans h4).trans e15).trans h16), LR.nil _⟩
  ·
    have hnb : (nodeO inf p).isSome = true := by simpa using hb0
    refine EC.skip ?_
    refine AQ.then ?_
    refine EC.seq ?_
    -- region 4  locate.go:45
    refine EC.region (fun i => [1, 2, 3].getD i 0) [0, 1, 2] rfl ?_
    refine ER.sil rfl rfl rfl rfl (Sil.makeFunc rfl rfl) ?_  -- 4.0: t23 := makeFunc
    refine ER.st rfl rfl rfl rfl (fun w17 h17 => Stp.alloc inf64 (fun w18 h18 s18 r18 => ⟨h18, ?_⟩))  -- 4.1: t8 := alloc
    refine ER.bar rfl rfl rfl rfl (fun w19 h19 => Stp.store (by kernel_rfl) rfl rfl (r18.ext h19) rfl rfl (fun w20 u20 r20 => ?_))  -- 4.2: tNone := store
    have e20 := ((h17.trans h18).trans h19).upd u20 h17.size
    refine ER.nil (fun w21 h21 => ?_)
    refine AQ.then ?_
    refine EC.seq ?_
    -- region 5  locate.go:46
    refine EC.region (fun i => [0, 1, 0, 1, 1, 2, 3].getD i 0) [0, 1, 2, 3, 4, 5, 6] rfl ?_
    refine ER.ex rfl rfl rfl rfl (Exa.load flat3 rfl ((r4.ext (((((((h5.trans h6).trans h7).trans e11).trans h12).trans h13).trans e20).trans h21)).cell rfl)) ?_  -- 5.0: t24 := load
    refine ER.sil rfl rfl rfl rfl (Sil.fieldAddr Try.underlying61 rfl inf3 rfl) ?_  -- 5.1: t25 := fieldAddr
    refine ER.ex rfl rfl rfl rfl (Exa.load flat3 rfl ((r11.ext (((h12.trans h13).trans e20).trans h21)).cell rfl)) ?_  -- 5.2: t26 := load
    refine ER.sil rfl rfl rfl rfl (Sil.sub rfl rfl) ?_  -- 5.3: t27 := binOp
    refine ER.sil rfl rfl rfl rfl (Sil.build rfl rfl) ?_  -- 5.4: t28 := build
    have l2 := (r2.ext (((((((((h3.trans h4).trans h5).trans h6).trans h7).trans e11).trans h12).trans h13).trans e20).trans h21)).lt
    have l3 := (r4.ext (((((((h5.trans h6).trans h7).trans e11).trans h12).trans h13).trans e20).trans h21)).lt
    have l4 := (r6.ext (((((h7.trans e11).trans h12).trans h13).trans e20).trans h21)).lt
    have l6 := (r11.ext (((h12.trans h13).trans e20).trans h21)).lt
    have l8 := (r20.ext h21).lt
    have hs9 := (((((((((((h1.trans h2).trans h3).trans h4).trans h5).trans h6).trans h7).trans e11).trans h12).trans h13).trans e20).trans h21).size
    refine ER.st rfl rfl rfl rfl (fun w22 h22 => Stp.alloc inf43 (fun w23 h23 s23 r23 => ⟨h23, ?_⟩))  -- 5.5: t9 := alloc
    have hm9 := h22.size
    refine ER.bar rfl rfl rfl rfl (fun w24 h24 => Stp.store (by kernel_rfl) rfl rfl (r23.ext h24) rfl rfl (fun w25 u25 r25 => ?_))  -- 5.6: tNone := store
    have e25 := ((h22.trans h23).trans h24).upd u25 h22.size
    refine ER.nil (fun w26 h26 => ?_)
    refine AQ.then ?_
    refine EC.join (σ := Unit) (fun q => [(2, ptr w1.heap.size), (3, ptr w3.heap.size), (4, ptr w5.heap.size), (6, ptr w8.heap.size), (8, ptr w17.heap.size), (9, ptr w22.heap.size)]) (fun q wr => Ext w wr ∧ Row wr w1.heap.size 39 cs ∧ Row wr w3.heap.size 3 [.int .i64 p] ∧ Row wr w5.heap.size 43 (sotC sot0 (.slice none 0 0)) ∧ Row wr w8.heap.size 61 (spC (spZ (nodeO inf p))) ∧ Row wr w17.heap.size 64 [.func (.func 20) #[] #[ptr w8.heap.size, ptr w3.heap.size]] ∧ Row wr w22.heap.size 43 [.string (funcS (markS inf (spZ (nodeO inf p)) p)), .int .i64 (offS (spZ (nodeO inf p)) p (markS inf (spZ (nodeO inf p)) p)), .string ByteArray.empty, .int .i64 0, .slice none 0 0]) ?_ (fun q wr hF => ?_)
    ·
      refine EC.seq ?_
      -- region 6  locate.go:47
      refine EC.region (fun i => [1, 1, 0, 1, 2, 0, 1, 1, 1, 2, 3, 1].getD i 0) [0, 1, 2, 3, 4, 5, 6, 7, 8, 9, 10, 11] rfl ?_
      refine ER.sil rfl rfl rfl rfl (Sil.fieldAddr Try.underlying39 rfl inf36 rfl) ?_  -- 6.0: t30 := fieldAddr
      refine ER.sil rfl rfl rfl rfl (Sil.fieldAddr Try.underlying36 rfl inf29 rfl) ?_  -- 6.1: t31 := fieldAddr
      refine ER.ex rfl rfl rfl rfl (Exa.load flat29 rfl (((r2.ext (((((((((((h3.trans h4).trans h5).trans h6).trans h7).trans e11).trans h12).trans h13).trans e20).trans h21).trans e25).trans h26))).cell hmv)) ?_  -- 6.2: t32 := load
      refine ER.sil rfl rfl rfl rfl (Sil.makeFunc rfl rfl) ?_  -- 6.3: t33 := makeFunc
      have hes := (((((((((((((h1.trans h2).trans h3).trans h4).trans h5).trans h6).trans h7).trans e11).trans h12).trans h13).trans e20).trans h21).trans e25).trans h26).size
      refine ER.st rfl rfl rfl rfl (fun w27 h27 => Stp.call fok22 rfl rfl (Calls.mono ((some_mkC_any mv _ w27 hml.isS3 ⟨_, _, _, rfl⟩)) ?_))  -- 6.4: t34 := call
      rintro _ w28 ⟨v28, rfl, h28, ⟨c1, c2, hv28, hc128, hc228, hl1, hl2⟩⟩
      refine ⟨_, rfl, h28, ?_⟩
      subst hv28
      have hes2 := h27.size
      refine ER.ex rfl rfl rfl rfl (Exa.call fok21 rfl rfl (fun wx hx => (last_mkC (inf.marks.filter (mkP (spZ (nodeO inf p)).at_ p)) _ [ptr c1, ptr c2] (fun b => b < wx.heap.size ∨ b = c1 ∨ b = c2) wx fok43 (fun b hb => hb.elim id (fun h => h.elim (fun e => e ▸ (hc128.ext hx).lt) (fun e => e ▸ (hc228.ext hx).lt))) (fun W hW => some_mkC_seq inf.marks mv _ [ptr w17.heap.size] (mkP (spZ (nodeO inf p)).at_ p) wx c1 c2 W hW (hml.ext ((((((((((((((((h1.trans h2).trans h3).trans h4).trans h5).trans h6).trans h7).trans e11).trans h12).trans h13).trans e20).trans h21).trans e25).trans h26).trans h27).trans h28).trans hx)) fok23 (fun x wz hz => at2_any x (spZ (nodeO inf p)) p w17.heap.size w8.heap.size w3.heap.size wz (((r20.ext ((((h21.trans e25).trans h26).trans h27).trans h28))).ext (hx.trans hz)) (((r11.ext (((((((h12.trans h13).trans e20).trans h21).trans e25).trans h26).trans h27).trans h28))).ext (hx.trans hz)) (((r4.ext (((((((((((h5.trans h6).trans h7).trans e11).trans h12).trans h13).trans e20).trans h21).trans e25).trans h26).trans h27).trans h28))).ext (hx.trans hz))) ((hc128.ext hx).ext hW) ((hc228.ext hx).ext hW))))) ?_  -- 6.5: t35 := call
      refine ER.sil rfl rfl rfl rfl (Sil.move rfl) ?_  -- 6.6: t29 := move
      refine ER.sil rfl rfl rfl rfl (Sil.extract rfl rfl) ?_  -- 6.7: t36 := extract
      refine ER.sil rfl rfl rfl rfl (Sil.extract rfl rfl) ?_  -- 6.8: t37 := extract
      have l9 := (r25.ext ((h26.trans h27).trans h28)).lt
      refine ER.st rfl rfl rfl rfl (fun w29 h29 => Stp.alloc inf66 (fun w30 h30 s30 r30 => ⟨h30, ?_⟩))  -- 6.9: t10 := alloc
      have hm10 := h29.size
      refine ER.bar rfl rfl rfl rfl (fun w31 h31 => Stp.store (by kernel_rfl) rfl rfl (r30.ext h31) rfl rfl (fun w32 u32 r32 => ?_))  -- 6.10: tNone := store
      have e32 := ((h29.trans h30).trans h31).upd u32 h29.size
      refine ER.sil rfl rfl rfl rfl (Sil.assign rfl) ?_  -- 6.11: t11 := assign
      refine ER.nil (fun w33 h33 => ?_)
      refine AQ.then ?_
      refine EC.seq ?_
      -- region 7  locate.go:47
      refine EC.region (fun i => [1].getD i 0) [0] rfl ?_
      refine ER.sil rfl rfl rfl rfl (Sil.move rfl) ?_  -- 7.0: t38 := move
      refine ER.nil (fun w34 h34 => ?_)
      refine AQ.then ?_
      refine EC.cond rfl (fun hb1 => ?_) (fun hb1 => ?_)  -- cond 1: t38
      ·
        -- region 8  locate.go:48
        refine EC.drawA (fun i => [1, 0, 0, 1, 0, 1, 1, 3, 1, 3].getD i 0) (by kernel_rfl) 10 rfl ?_
        refine EA.take 0 (by kernel_rfl) ?_
        intro c35
        refine EX.sil rfl rfl rfl rfl (Sil.fieldAddr Try.underlying66 rfl inf9 rfl) ?_  -- 8.0: t39 := fieldAddr
        refine EA.back c35 ?_
        refine EA.take 3 (by kernel_rfl) ?_
        intro c36
        refine EX.sil rfl rfl rfl rfl (Sil.fieldAddr Try.underlying66 rfl inf3 rfl) ?_  -- 8.3: t42 := fieldAddr
        refine EA.back c36 ?_
        refine EA.take 1 (by kernel_rfl) ?_
        intro c37
        refine EX.ex rfl rfl rfl rfl (Exa.load flat9 rfl ((r32.ext (h33.trans h34)).cell rfl)) ?_  -- 8.1: t40 := load
        refine EA.back c37 ?_
        refine EA.take 6 (by kernel_rfl) ?_
        intro c38
        refine EX.sil rfl rfl rfl rfl (Sil.fieldAddr Try.underlying43 rfl inf9 rfl) ?_  -- 8.6: t45 := fieldAddr
        refine EA.back c38 ?_
        refine EA.three 2 4 7 (by kernel_rfl) ?_ ?_ ?_
        ·
          intro c39
          refine EX.ex rfl rfl rfl rfl (Exa.load flat3 rfl ((r4.ext ((((((((((((((h5.trans h6).trans h7).trans e11).trans h12).trans h13).trans e20).trans h21).trans e25).trans h26).trans h27).trans h28).trans e32).trans h33).trans h34)).cell rfl)) ?_  -- 8.2: t41 := load
          refine EA.back c39 ?_
          refine EA.two 4 7 (by kernel_rfl) ?_ ?_
          ·
            intro c40
            refine EX.ex rfl rfl rfl rfl (Exa.load flat3 rfl ((r32.ext (h33.trans h34)).cell rfl)) ?_  -- 8.4: t43 := load
            refine EA.back c40 ?_
            refine EA.take 5 (by kernel_rfl) ?_
            intro c41
            refine EX.sil rfl rfl rfl rfl (Sil.sub rfl rfl) ?_  -- 8.5: t44 := binOp
            refine EA.back c41 ?_
            refine EA.only 7 (by kernel_rfl) ?_
            intro c42
            refine EX.bar rfl rfl rfl rfl (fun w43 h43 => Stp.storeF (by kernel_rfl) rfl rfl (r25.ext ((((((h26.trans h27).trans h28).trans e32).trans h33).trans h34).trans h43)) (show 0 + 1 ≤ 5 from by decide) rfl (fun w44 u44 r44 => ?_))  -- 8.7: tNone := store
            have r44 := (show Row _ _ _ [_, _, _, _, _] from r44)
            have b44 := (((((((((((((((((((h1.trans h2).trans h3).trans h4).trans h5).trans h6).trans h7).trans e11).trans h12).trans h13).trans e20).trans h21).trans e25).trans h26).trans h27).trans h28).trans e32).trans h33).trans h34).trans h43).upd u44 (by omega)
            have x44_2 := u44.row (r2.ext (((((((((((((((((h3.trans h4).trans h5).trans h6).trans h7).trans e11).trans h12).trans h13).trans e20).trans h21).trans e25).trans h26).trans h27).trans h28).trans e32).trans h33).trans h34).trans h43)) (by omega)
            have x44_3 := u44.row (r4.ext (((((((((((((((h5.trans h6).trans h7).trans e11).trans h12).trans h13).trans e20).trans h21).trans e25).trans h26).trans h27).trans h28).trans e32).trans h33).trans h34).trans h43)) (by omega)
            have x44_4 := u44.row (r6.ext (((((((((((((h7.trans e11).trans h12).trans h13).trans e20).trans h21).trans e25).trans h26).trans h27).trans h28).trans e32).trans h33).trans h34).trans h43)) (by omega)
            have x44_6 := u44.row (r11.ext (((((((((((h12.trans h13).trans e20).trans h21).trans e25).trans h26).trans h27).trans h28).trans e32).trans h33).trans h34).trans h43)) (by omega)
            have x44_8 := u44.row (r20.ext ((((((((h21.trans e25).trans h26).trans h27).trans h28).trans e32).trans h33).trans h34).trans h43)) (by omega)
            have x44_10 := u44.row (r32.ext ((h33.trans h34).trans h43)) (by omega)
            refine EA.back c42 ?_
            refine EA.take 8 (by kernel_rfl) ?_
            intro c45
            refine EX.sil rfl rfl rfl rfl (Sil.fieldAddr Try.underlying43 rfl inf3 rfl) ?_  -- 8.8: t46 := fieldAddr
            refine EA.back c45 ?_
            refine EA.only 9 (by kernel_rfl) ?_
            intro c46
            refine EX.bar rfl rfl rfl rfl (fun w47 h47 => Stp.storeF (by kernel_rfl) rfl rfl (r44.ext h47) (show 1 + 1 ≤ 5 from by decide) rfl (fun w48 u48 r48 => ?_))  -- 8.9: tNone := store
            have r48 := (show Row _ _ _ [_, _, _, _, _] from r48)
            have b48 := (b44.trans h47).upd u48 (by omega)
            have x48_2 := u48.row (x44_2.ext h47) (by omega)
            have x48_3 := u48.row (x44_3.ext h47) (by omega)
            have x48_4 := u48.row (x44_4.ext h47) (by omega)
            have x48_6 := u48.row (x44_6.ext h47) (by omega)
            have x48_8 := u48.row (x44_8.ext h47) (by omega)
            have x48_10 := u48.row (x44_10.ext h47) (by omega)
            refine EA.back c46 ?_
            refine EA.nil (by kernel_rfl) (fun w49 h49 => ?_)
            refine AQ.join () [2, 3, 4, 6, 8, 9] rfl ⟨(b48.trans h49), (x48_2.ext h49), (x48_3.ext h49), (x48_4.ext h49), (x48_6.ext h49), (x48_8.ext h49), ?_⟩
            rw [show markS inf (spZ (nodeO inf p)) p = some (lastD mkZ (inf.marks.filter (mkP (spZ (nodeO inf p)).at_ p))) from last_some hb1]
            exact (r48.ext h49)
          ·
            intro c50
            refine EX.bar rfl rfl rfl rfl (fun w51 h51 => Stp.storeF (by kernel_rfl) rfl rfl (r25.ext ((((((h26.trans h27).trans h28).trans e32).trans h33).trans h34).trans h51)) (show 0 + 1 ≤ 5 from by decide) rfl (fun w52 u52 r52 => ?_))  -- 8.7: tNone := store
            have r52 := (show Row _ _ _ [_, _, _, _, _] from r52)
            have b52 := (((((((((((((((((((h1.trans h2).trans h3).trans h4).trans h5).trans h6).trans h7).trans e11).trans h12).trans h13).trans e20).trans h21).trans e25).trans h26).trans h27).trans h28).trans e32).trans h33).trans h34).trans h51).upd u52 (by omega)
            have x52_2 := u52.row (r2.ext (((((((((((((((((h3.trans h4).trans h5).trans h6).trans h7).trans e11).trans h12).trans h13).trans e20).trans h21).trans e25).trans h26).trans h27).trans h28).trans e32).trans h33).trans h34).trans h51)) (by omega)
            have x52_3 := u52.row (r4.ext (((((((((((((((h5.trans h6).trans h7).trans e11).trans h12).trans h13).trans e20).trans h21).trans e25).trans h26).trans h27).trans h28).trans e32).trans h33).trans h34).trans h51)) (by omega)
            have x52_4 := u52.row (r6.ext (((((((((((((h7.trans e11).trans h12).trans h13).trans e20).trans h21).trans e25).trans h26).trans h27).trans h28).trans e32).trans h33).trans h34).trans h51)) (by omega)
            have x52_6 := u52.row (r11.ext (((((((((((h12.trans h13).trans e20).trans h21).trans e25).trans h26).trans h27).trans h28).trans e32).trans h33).trans h34).trans h51)) (by omega)
            have x52_8 := u52.row (r20.ext ((((((((h21.trans e25).trans h26).trans h27).trans h28).trans e32).trans h33).trans h34).trans h51)) (by omega)
            have x52_10 := u52.row (r32.ext ((h33.trans h34).trans h51)) (by omega)
            refine EA.back c50 ?_
            refine EA.take 4 (by kernel_rfl) ?_
            intro c53
            refine EX.ex rfl rfl rfl rfl (Exa.load flat3 rfl (x52_10.cell rfl)) ?_  -- 8.4: t43 := load
            refine EA.back c53 ?_
            refine EA.take 5 (by kernel_rfl) ?_
            intro c54
            refine EX.sil rfl rfl rfl rfl (Sil.sub rfl rfl) ?_  -- 8.5: t44 := binOp
            refine EA.back c54 ?_
            refine EA.take 8 (by kernel_rfl) ?_
            intro c55
            refine EX.sil rfl rfl rfl rfl (Sil.fieldAddr Try.underlying43 rfl inf3 rfl) ?_  -- 8.8: t46 := fieldAddr
            refine EA.back c55 ?_
            refine EA.only 9 (by kernel_rfl) ?_
            intro c56
            refine EX.bar rfl rfl rfl rfl (fun w57 h57 => Stp.storeF (by kernel_rfl) rfl rfl (r52.ext h57) (show 1 + 1 ≤ 5 from by decide) rfl (fun w58 u58 r58 => ?_))  -- 8.9: tNone := store
            have r58 := (show Row _ _ _ [_, _, _, _, _] from r58)
            have b58 := (b52.trans h57).upd u58 (by omega)
            have x58_2 := u58.row (x52_2.ext h57) (by omega)
            have x58_3 := u58.row (x52_3.ext h57) (by omega)
            have x58_4 := u58.row (x52_4.ext h57) (by omega)
            have x58_6 := u58.row (x52_6.ext h57) (by omega)
            have x58_8 := u58.row (x52_8.ext h57) (by omega)
            have x58_10 := u58.row (x52_10.ext h57) (by omega)
            refine EA.back c56 ?_
            refine EA.nil (by kernel_rfl) (fun w59 h59 => ?_)
            refine AQ.join () [2, 3, 4, 6, 8, 9] rfl ⟨(b58.trans h59), (x58_2.ext h59), (x58_3.ext h59), (x58_4.ext h59), (x58_6.ext h59), (x58_8.ext h59), ?_⟩
            rw [show markS inf (spZ (nodeO inf p)) p = some (lastD mkZ (inf.marks.filter (mkP (spZ (nodeO inf p)).at_ p))) from last_some hb1]
            exact (r58.ext h59)
        ·
          intro c60
          refine EX.ex rfl rfl rfl rfl (Exa.load flat3 rfl ((r32.ext (h33.trans h34)).cell rfl)) ?_  -- 8.4: t43 := load
          refine EA.back c60 ?_
          refine EA.two 2 7 (by kernel_rfl) ?_ ?_
          ·
            intro c61
            refine EX.ex rfl rfl rfl rfl (Exa.load flat3 rfl ((r4.ext ((((((((((((((h5.trans h6).trans h7).trans e11).trans h12).trans h13).trans e20).trans h21).trans e25).trans h26).trans h27).trans h28).trans e32).trans h33).trans h34)).cell rfl)) ?_  -- 8.2: t41 := load
            refine EA.back c61 ?_
            refine EA.take 5 (by kernel_rfl) ?_
            intro c62
            refine EX.sil rfl rfl rfl rfl (Sil.sub rfl rfl) ?_  -- 8.5: t44 := binOp
            refine EA.back c62 ?_
            refine EA.only 7 (by kernel_rfl) ?_
            intro c63
            refine EX.bar rfl rfl rfl rfl (fun w64 h64 => Stp.storeF (by kernel_rfl) rfl rfl (r25.ext ((((((h26.trans h27).trans h28).trans e32).trans h33).trans h34).trans h64)) (show 0 + 1 ≤ 5 from by decide) rfl (fun w65 u65 r65 => ?_))  -- 8.7: tNone := store
            have r65 := (show Row _ _ _ [_, _, _, _, _] from r65)
            have b65 := (((((((((((((((((((h1.trans h2).trans h3).trans h4).trans h5).trans h6).trans h7).trans e11).trans h12).trans h13).trans e20).trans h21).trans e25).trans h26).trans h27).trans h28).trans e32).trans h33).trans h34).trans h64).upd u65 (by omega)
            have x65_2 := u65.row (r2.ext (((((((((((((((((h3.trans h4).trans h5).trans h6).trans h7).trans e11).trans h12).trans h13).trans e20).trans h21).trans e25).trans h26).trans h27).trans h28).trans e32).trans h33).trans h34).trans h64)) (by omega)
            have x65_3 := u65.row (r4.ext (((((((((((((((h5.trans h6).trans h7).trans e11).trans h12).trans h13).trans e20).trans h21).trans e25).trans h26).trans h27).trans h28).trans e32).trans h33).trans h34).trans h64)) (by omega)
            have x65_4 := u65.row (r6.ext (((((((((((((h7.trans e11).trans h12).trans h13).trans e20).trans h21).trans e25).trans h26).trans h27).trans h28).trans e32).trans h33).trans h34).trans h64)) (by omega)
            have x65_6 := u65.row (r11.ext (((((((((((h12.trans h13).trans e20).trans h21).trans e25).trans h26).trans h27).trans h28).trans e32).trans h33).trans h34).trans h64)) (by omega)
            have x65_8 := u65.row (r20.ext ((((((((h21.trans e25).trans h26).trans h27).trans h28).trans e32).trans h33).trans h34).trans h64)) (by omega)
            have x65_10 := u65.row (r32.ext ((h33.trans h34).trans h64)) (by omega)
            refine EA.back c63 ?_
            refine EA.take 8 (by kernel_rfl) ?_
            intro c66
            refine EX.sil rfl rfl rfl rfl (Sil.fieldAddr Try.underlying43 rfl inf3 rfl) ?_  -- 8.8: t46 := fieldAddr
            refine EA.back c66 ?_
            refine EA.only 9 (by kernel_rfl) ?_
            intro c67
            refine EX.bar rfl rfl rfl rfl (fun w68 h68 => Stp.storeF (by kernel_rfl) rfl rfl (r65.ext h68) (show 1 + 1 ≤ 5 from by decide) rfl (fun w69 u69 r69 => ?_))  -- 8.9: tNone := store
            have r69 := (show Row _ _ _ [_, _, _, _, _] from r69)
            have b69 := (b65.trans h68).upd u69 (by omega)
            have x69_2 := u69.row (x65_2.ext h68) (by omega)
            have x69_3 := u69.row (x65_3.ext h68) (by omega)
            have x69_4 := u69.row (x65_4.ext h68) (by omega)
            have x69_6 := u69.row (x65_6.ext h68) (by omega)
            have x69_8 := u69.row (x65_8.ext h68) (by omega)
            have x69_10 := u69.row (x65_10.ext h68) (by omega)
            refine EA.back c67 ?_
            refine EA.nil (by kernel_rfl) (fun w70 h70 => ?_)
            refine AQ.join () [2, 3, 4, 6, 8, 9] rfl ⟨(b69.trans h70), (x69_2.ext h70), (x69_3.ext h70), (x69_4.ext h70), (x69_6.ext h70), (x69_8.ext h70), ?_⟩
            rw [show markS inf (spZ (nodeO inf p)) p = some (lastD mkZ (inf.marks.filter (mkP (spZ (nodeO inf p)).at_ p))) from last_some hb1]
            exact (r69.ext h70)
          ·
            intro c71
            refine EX.bar rfl rfl rfl rfl (fun w72 h72 => Stp.storeF (by kernel_rfl) rfl rfl (r25.ext ((((((h26.trans h27).trans h28).trans e32).trans h33).trans h34).trans h72)) (show 0 + 1 ≤ 5 from by decide) rfl (fun w73 u73 r73 => ?_))  -- 8.7: tNone := store
            have r73 := (show Row _ _ _ [_, _, _, _, _] from r73)
            have b73 := (((((((((((((((((((h1.trans h2).trans h3).trans h4).trans h5).trans h6).trans h7).trans e11).trans h12).trans h13).trans e20).trans h21).trans e25).trans h26).trans h27).trans h28).trans e32).trans h33).trans h34).trans h72).upd u73 (by omega)
            have x73_2 := u73.row (r2.ext (((((((((((((((((h3.trans h4).trans h5).trans h6).trans h7).trans e11).trans h12).trans h13).trans e20).trans h21).trans e25).trans h26).trans h27).trans h28).trans e32).trans h33).trans h34).trans h72)) (by omega)
            have x73_3 := u73.row (r4.ext (((((((((((((((h5.trans h6).trans h7).trans e11).trans h12).trans h13).trans e20).trans h21).trans e25).trans h26).trans h27).trans h28).trans e32).trans h33).trans h34).trans h72)) (by omega)
            have x73_4 := u73.row (r6.ext (((((((((((((h7.trans e11).trans h12).trans h13).trans e20).trans h21).trans e25).trans h26).trans h27).trans h28).trans e32).trans h33).trans h34).trans h72)) (by omega)
            have x73_6 := u73.row (r11.ext (((((((((((h12.trans h13).trans e20).trans h21).trans e25).trans h26).trans h27).trans h28).trans e32).trans h33).trans h34).trans h72)) (by omega)
            have x73_8 := u73.row (r20.ext ((((((((h21.trans e25).trans h26).trans h27).trans h28).trans e32).trans h33).trans h34).trans h72)) (by omega)
            have x73_10 := u73.row (r32.ext ((h33.trans h34).trans h72)) (by omega)
            refine EA.back c71 ?_
            refine EA.take 2 (by kernel_rfl) ?_
            intro c74
            refine EX.ex rfl rfl rfl rfl (Exa.load flat3 rfl (x73_3.cell rfl)) ?_  -- 8.2: t41 := load
            refine EA.back c74 ?_
            refine EA.take 5 (by kernel_rfl) ?_
            intro c75
            refine EX.sil rfl rfl rfl rfl (Sil.sub rfl rfl) ?_  -- 8.5: t44 := binOp
            refine EA.back c75 ?_
            refine EA.take 8 (by kernel_rfl) ?_
            intro c76
            refine EX.sil rfl rfl rfl rfl (Sil.fieldAddr Try.underlying43 rfl inf3 rfl) ?_  -- 8.8: t46 := fieldAddr
            refine EA.back c76 ?_
            refine EA.only 9 (by kernel_rfl) ?_
            intro c77
            refine EX.bar rfl rfl rfl rfl (fun w78 h78 => Stp.storeF (by kernel_rfl) rfl rfl (r73.ext h78) (show 1 + 1 ≤ 5 from by decide) rfl (fun w79 u79 r79 => ?_))  -- 8.9: tNone := store
            have r79 := (show Row _ _ _ [_, _, _, _, _] from r79)
            have b79 := (b73.trans h78).upd u79 (by omega)
            have x79_2 := u79.row (x73_2.ext h78) (by omega)
            have x79_3 := u79.row (x73_3.ext h78) (by omega)
            have x79_4 := u79.row (x73_4.ext h78) (by omega)
            have x79_6 := u79.row (x73_6.ext h78) (by omega)
            have x79_8 := u79.row (x73_8.ext h78) (by omega)
            have x79_10 := u79.row (x73_10.ext h78) (by omega)
            refine EA.back c77 ?_
            refine EA.nil (by kernel_rfl) (fun w80 h80 => ?_)
            refine AQ.join () [2, 3, 4, 6, 8, 9] rfl ⟨(b79.trans h80), (x79_2.ext h80), (x79_3.ext h80), (x79_4.ext h80), (x79_6.ext h80), (x79_8.ext h80), ?_⟩
            rw [show markS inf (spZ (nodeO inf p)) p = some (lastD mkZ (inf.marks.filter (mkP (spZ (nodeO inf p)).at_ p))) from last_some hb1]
            exact (r79.ext h80)
        ·
          intro c81
          refine EX.bar rfl rfl rfl rfl (fun w82 h82 => Stp.storeF (by kernel_rfl) rfl rfl (r25.ext ((((((h26.trans h27).trans h28).trans e32).trans h33).trans h34).trans h82)) (show 0 + 1 ≤ 5 from by decide) rfl (fun w83 u83 r83 => ?_))  -- 8.7: tNone := store
          have r83 := (show Row _ _ _ [_, _, _, _, _] from r83)
          have b83 := (((((((((((((((((((h1.trans h2).trans h3).trans h4).trans h5).trans h6).trans h7).trans e11).trans h12).trans h13).trans e20).trans h21).trans e25).trans h26).trans h27).trans h28).trans e32).trans h33).trans h34).trans h82).upd u83 (by omega)
          have x83_2 := u83.row (r2.ext (((((((((((((((((h3.trans h4).trans h5).trans h6).trans h7).trans e11).trans h12).trans h13).trans e20).trans h21).trans e25).trans h26).trans h27).trans h28).trans e32).trans h33).trans h34).trans h82)) (by omega)
          have x83_3 := u83.row (r4.ext (((((((((((((((h5.trans h6).trans h7).trans e11).trans h12).trans h13).trans e20).trans h21).trans e25).trans h26).trans h27).trans h28).trans e32).trans h33).trans h34).trans h82)) (by omega)
          have x83_4 := u83.row (r6.ext (((((((((((((h7.trans e11).trans h12).trans h13).trans e20).trans h21).trans e25).trans h26).trans h27).trans h28).trans e32).trans h33).trans h34).trans h82)) (by omega)
          have x83_6 := u83.row (r11.ext (((((((((((h12.trans h13).trans e20).trans h21).trans e25).trans h26).trans h27).trans h28).trans e32).trans h33).trans h34).trans h82)) (by omega)
          have x83_8 := u83.row (r20.ext ((((((((h21.trans e25).trans h26).trans h27).trans h28).trans e32).trans h33).trans h34).trans h82)) (by omega)
          have x83_10 := u83.row (r32.ext ((h33.trans h34).trans h82)) (by omega)
          refine EA.back c81 ?_
          refine EA.take 2 (by kernel_rfl) ?_
          intro c84
          refine EX.ex rfl rfl rfl rfl (Exa.load flat3 rfl (x83_3.cell rfl)) ?_  -- 8.2: t41 := load
          refine EA.back c84 ?_
          refine EA.take 4 (by kernel_rfl) ?_
          intro c85
          refine EX.ex rfl rfl rfl rfl (Exa.load flat3 rfl (x83_10.cell rfl)) ?_  -- 8.4: t43 := load
          refine EA.back c85 ?_
          refine EA.take 5 (by kernel_rfl) ?_
          intro c86
          refine EX.sil rfl rfl rfl rfl (Sil.sub rfl rfl) ?_  -- 8.5: t44 := binOp
          refine EA.back c86 ?_
          refine EA.take 8 (by kernel_rfl) ?_
          intro c87
          refine EX.sil rfl rfl rfl rfl (Sil.fieldAddr Try.underlying43 rfl inf3 rfl) ?_  -- 8.8: t46 := fieldAddr
          refine EA.back c87 ?_
          refine EA.only 9 (by kernel_rfl) ?_
          intro c88
          refine EX.bar rfl rfl rfl rfl (fun w89 h89 => Stp.storeF (by kernel_rfl) rfl rfl (r83.ext h89) (show 1 + 1 ≤ 5 from by decide) rfl (fun w90 u90 r90 => ?_))  -- 8.9: tNone := store
          have r90 := (show Row _ _ _ [_, _, _, _, _] from r90)
          have b90 := (b83.trans h89).upd u90 (by omega)
          have x90_2 := u90.row (x83_2.ext h89) (by omega)
          have x90_3 := u90.row (x83_3.ext h89) (by omega)
          have x90_4 := u90.row (x83_4.ext h89) (by omega)
          have x90_6 := u90.row (x83_6.ext h89) (by omega)
          have x90_8 := u90.row (x83_8.ext h89) (by omega)
          have x90_10 := u90.row (x83_10.ext h89) (by omega)
          refine EA.back c88 ?_
          refine EA.nil (by kernel_rfl) (fun w91 h91 => ?_)
          refine AQ.join () [2, 3, 4, 6, 8, 9] rfl ⟨(b90.trans h91), (x90_2.ext h91), (x90_3.ext h91), (x90_4.ext h91), (x90_6.ext h91), (x90_8.ext h91), ?_⟩
          rw [show markS inf (spZ (nodeO inf p)) p = some (lastD mkZ (inf.marks.filter (mkP (spZ (nodeO inf p)).at_ p))) from last_some hb1]
          exact (r90.ext h91)
      ·
        refine EC.skip ?_
        refine AQ.join () [2, 3, 4, 6, 8, 9] rfl ⟨((((((((((((((((((h1.trans h2).trans h3).trans h4).trans h5).trans h6).trans h7).trans e11).trans h12).trans h13).trans e20).trans h21).trans e25).trans h26).trans h27).trans h28).trans e32).trans h33).trans h34), (r2.ext ((((((((((((((((h3.trans h4).trans h5).trans h6).trans h7).trans e11).trans h12).trans h13).trans e20).trans h21).trans e25).trans h26).trans h27).trans h28).trans e32).trans h33).trans h34)), (r4.ext ((((((((((((((h5.trans h6).trans h7).trans e11).trans h12).trans h13).trans e20).trans h21).trans e25).trans h26).trans h27).trans h28).trans e32).trans h33).trans h34)), (r6.ext ((((((((((((h7.trans e11).trans h12).trans h13).trans e20).trans h21).trans e25).trans h26).trans h27).trans h28).trans e32).trans h33).trans h34)), (r11.ext ((((((((((h12.trans h13).trans e20).trans h21).trans e25).trans h26).trans h27).trans h28).trans e32).trans h33).trans h34)), (r20.ext (((((((h21.trans e25).trans h26).trans h27).trans h28).trans e32).trans h33).trans h34)), ?_⟩
        rw [show markS inf (spZ (nodeO inf p)) p = none from last_none hb1]
        exact (r25.ext (((((h26.trans h27).trans h28).trans e32).trans h33).trans h34))
    obtain ⟨hE, q2, q3, q4, q6, q8, q9⟩ := hF
    refine EC.join (σ := Unit) (fun q => [(2, ptr w1.heap.size), (3, ptr w3.heap.size), (4, ptr w5.heap.size), (6, ptr w8.heap.size), (8, ptr w17.heap.size), (9, ptr w22.heap.size)]) (fun q wr => Ext w wr ∧ Row wr w1.heap.size 39 cs ∧ Row wr w3.heap.size 3 [.int .i64 p] ∧ Row wr w5.heap.size 43 (sotC sot0 (.slice none 0 0)) ∧ Row wr w8.heap.size 61 (spC (spZ (nodeO inf p))) ∧ Row wr w17.heap.size 64 [.func (.func 20) #[] #[ptr w8.heap.size, ptr w3.heap.size]] ∧ Row wr w22.heap.size 43 [.string (funcS (markS inf (spZ (nodeO inf p)) p)), .int .i64 (offS (spZ (nodeO inf p)) p (markS inf (spZ (nodeO inf p)) p)), .string (fileS (lineS inf (spZ (nodeO inf p)) p)), .int .i64 (linS (lineS inf (spZ (nodeO inf p)) p)), .slice none 0 0]) ?_ (fun q wr hF => ?_)
    ·
      refine EC.seq ?_
      -- region 9  locate.go:50
      refine EC.region (fun i => [1, 1, 0, 1, 2, 0, 1, 1, 1, 2, 3, 1].getD i 0) [0, 1, 2, 3, 4, 5, 6, 7, 8, 9, 10, 11] rfl ?_
      refine ER.sil rfl rfl rfl rfl (Sil.fieldAddr Try.underlying39 rfl inf36 rfl) ?_  -- 9.0: t48 := fieldAddr
      refine ER.sil rfl rfl rfl rfl (Sil.fieldAddr Try.underlying36 rfl inf30 rfl) ?_  -- 9.1: t49 := fieldAddr
      refine ER.ex rfl rfl rfl rfl (Exa.load flat30 rfl ((q2).cell hlv)) ?_  -- 9.2: t50 := load
      refine ER.sil rfl rfl rfl rfl (Sil.makeFunc rfl rfl) ?_  -- 9.3: t51 := makeFunc
      have hes := hE.size
      refine ER.st rfl rfl rfl rfl (fun w92 h92 => Stp.call fok25 rfl rfl (Calls.mono ((some_lnC_any lv _ w92 hll.isS3 ⟨_, _, _, rfl⟩)) ?_))  -- 9.4: t52 := call
      rintro _ w93 ⟨v93, rfl, h93, ⟨c1, c2, hv93, hc193, hc293, hl1, hl2⟩⟩
      refine ⟨_, rfl, h93, ?_⟩
      subst hv93
      have hes2 := h92.size
      refine ER.ex rfl rfl rfl rfl (Exa.call fok24 rfl rfl (fun wx hx => (last_lnC (inf.lines.filter (lnP (spZ (nodeO inf p)).at_ p)) _ [ptr c1, ptr c2] (fun b => b < wx.heap.size ∨ b = c1 ∨ b = c2) wx fok44 (fun b hb => hb.elim id (fun h => h.elim (fun e => e ▸ (hc193.ext hx).lt) (fun e => e ▸ (hc293.ext hx).lt))) (fun W hW => some_lnC_seq inf.lines lv _ [ptr w17.heap.size] (lnP (spZ (nodeO inf p)).at_ p) wx c1 c2 W hW (hll.ext (((hE.trans h92).trans h93).trans hx)) fok26 (fun x wz hz => at3_any x (spZ (nodeO inf p)) p w17.heap.size w8.heap.size w3.heap.size wz (((q8.ext (h92.trans h93))).ext (hx.trans hz)) (((q6.ext (h92.trans h93))).ext (hx.trans hz)) (((q3.ext (h92.trans h93))).ext (hx.trans hz))) ((hc193.ext hx).ext hW) ((hc293.ext hx).ext hW))))) ?_  -- 9.5: t53 := call
      refine ER.sil rfl rfl rfl rfl (Sil.move rfl) ?_  -- 9.6: t47 := move
      refine ER.sil rfl rfl rfl rfl (Sil.extract rfl rfl) ?_  -- 9.7: t54 := extract
      refine ER.sil rfl rfl rfl rfl (Sil.extract rfl rfl) ?_  -- 9.8: t55 := extract
      have l9 := (q9.ext (h92.trans h93)).lt
      refine ER.st rfl rfl rfl rfl (fun w94 h94 => Stp.alloc inf74 (fun w95 h95 s95 r95 => ⟨h95, ?_⟩))  -- 9.9: t12 := alloc
      have hm12 := h94.size
      refine ER.bar rfl rfl rfl rfl (fun w96 h96 => Stp.store (by kernel_rfl) rfl rfl (r95.ext h96) rfl rfl (fun w97 u97 r97 => ?_))  -- 9.10: tNone := store
      have e97 := ((h94.trans h95).trans h96).upd u97 h94.size
      refine ER.sil rfl rfl rfl rfl (Sil.assign rfl) ?_  -- 9.11: t13 := assign
      refine ER.nil (fun w98 h98 => ?_)
      refine AQ.then ?_
      refine EC.seq ?_
      -- region 10  locate.go:50
      refine EC.region (fun i => [1].getD i 0) [0] rfl ?_
      refine ER.sil rfl rfl rfl rfl (Sil.move rfl) ?_  -- 10.0: t56 := move
      refine ER.nil (fun w99 h99 => ?_)
      refine AQ.then ?_
      refine EC.cond rfl (fun hb2 => ?_) (fun hb2 => ?_)  -- cond 2: t56
      ·
        -- region 11  locate.go:51
        refine EC.drawA (fun i => [1, 0, 1, 0, 1, 3, 1, 3].getD i 0) (by kernel_rfl) 8 rfl ?_
        refine EA.take 0 (by kernel_rfl) ?_
        intro c100
        refine EX.sil rfl rfl rfl rfl (Sil.fieldAddr Try.underlying74 rfl inf9 rfl) ?_  -- 11.0: t57 := fieldAddr
        refine EA.back c100 ?_
        refine EA.take 2 (by kernel_rfl) ?_
        intro c101
        refine EX.sil rfl rfl rfl rfl (Sil.fieldAddr Try.underlying74 rfl inf3 rfl) ?_  -- 11.2: t59 := fieldAddr
        refine EA.back c101 ?_
        refine EA.take 1 (by kernel_rfl) ?_
        intro c102
        refine EX.ex rfl rfl rfl rfl (Exa.load flat9 rfl ((r97.ext (h98.trans h99)).cell rfl)) ?_  -- 11.1: t58 := load
        refine EA.back c102 ?_
        refine EA.take 4 (by kernel_rfl) ?_
        intro c103
        refine EX.sil rfl rfl rfl rfl (Sil.fieldAddr Try.underlying43 rfl inf9 rfl) ?_  -- 11.4: t61 := fieldAddr
        refine EA.back c103 ?_
        refine EA.two 3 5 (by kernel_rfl) ?_ ?_
        ·
          intro c104
          refine EX.ex rfl rfl rfl rfl (Exa.load flat3 rfl ((r97.ext (h98.trans h99)).cell rfl)) ?_  -- 11.3: t60 := load
          refine EA.back c104 ?_
          refine EA.only 5 (by kernel_rfl) ?_
          intro c105
          refine EX.bar rfl rfl rfl rfl (fun w106 h106 => Stp.storeF (by kernel_rfl) rfl rfl (q9.ext (((((h92.trans h93).trans e97).trans h98).trans h99).trans h106)) (show 2 + 1 ≤ 5 from by decide) rfl (fun w107 u107 r107 => ?_))  -- 11.5: tNone := store
          have r107 := (show Row _ _ _ [_, _, _, _, _] from r107)
          have b107 := ((((((hE.trans h92).trans h93).trans e97).trans h98).trans h99).trans h106).upd u107 (by omega)
          have x107_2 := u107.row (q2.ext (((((h92.trans h93).trans e97).trans h98).trans h99).trans h106)) (by omega)
          have x107_3 := u107.row (q3.ext (((((h92.trans h93).trans e97).trans h98).trans h99).trans h106)) (by omega)
          have x107_4 := u107.row (q4.ext (((((h92.trans h93).trans e97).trans h98).trans h99).trans h106)) (by omega)
          have x107_6 := u107.row (q6.ext (((((h92.trans h93).trans e97).trans h98).trans h99).trans h106)) (by omega)
          have x107_8 := u107.row (q8.ext (((((h92.trans h93).trans e97).trans h98).trans h99).trans h106)) (by omega)
          have x107_12 := u107.row (r97.ext ((h98.trans h99).trans h106)) (by omega)
          refine EA.back c105 ?_
          refine EA.take 6 (by kernel_rfl) ?_
          intro c108
          refine EX.sil rfl rfl rfl rfl (Sil.fieldAddr Try.underlying43 rfl inf3 rfl) ?_  -- 11.6: t62 := fieldAddr
          refine EA.back c108 ?_
          refine EA.only 7 (by kernel_rfl) ?_
          intro c109
          refine EX.bar rfl rfl rfl rfl (fun w110 h110 => Stp.storeF (by kernel_rfl) rfl rfl (r107.ext h110) (show 3 + 1 ≤ 5 from by decide) rfl (fun w111 u111 r111 => ?_))  -- 11.7: tNone := store
          have r111 := (show Row _ _ _ [_, _, _, _, _] from r111)
          have b111 := (b107.trans h110).upd u111 (by omega)
          have x111_2 := u111.row (x107_2.ext h110) (by omega)
          have x111_3 := u111.row (x107_3.ext h110) (by omega)
          have x111_4 := u111.row (x107_4.ext h110) (by omega)
          have x111_6 := u111.row (x107_6.ext h110) (by omega)
          have x111_8 := u111.row (x107_8.ext h110) (by omega)
          have x111_12 := u111.row (x107_12.ext h110) (by omega)
          refine EA.back c109 ?_
          refine EA.nil (by kernel_rfl) (fun w112 h112 => ?_)
          refine AQ.join () [2, 3, 4, 6, 8, 9] rfl ⟨(b111.trans h112), (x111_2.ext h112), (x111_3.ext h112), (x111_4.ext h112), (x111_6.ext h112), (x111_8.ext h112), ?_⟩
          rw [show lineS inf (spZ (nodeO inf p)) p = some (lastD lnZ (inf.lines.filter (lnP (spZ (nodeO inf p)).at_ p))) from last_some hb2]
          exact (r111.ext h112)
        ·
          intro c113
          refine EX.bar rfl rfl rfl rfl (fun w114 h114 => Stp.storeF (by kernel_rfl) rfl rfl (q9.ext (((((h92.trans h93).trans e97).trans h98).trans h99).trans h114)) (show 2 + 1 ≤ 5 from by decide) rfl (fun w115 u115 r115 => ?_))  -- 11.5: tNone := store
          have r115 := (show Row _ _ _ [_, _, _, _, _] from r115)
          have b115 := ((((((hE.trans h92).trans h93).trans e97).trans h98).trans h99).trans h114).upd u115 (by omega)
          have x115_2 := u115.row (q2.ext (((((h92.trans h93).trans e97).trans h98).trans h99).trans h114)) (by omega)
          have x115_3 := u115.row (q3.ext (((((h92.trans h93).trans e97).trans h98).trans h99).trans h114)) (by omega)
          have x115_4 := u115.row (q4.ext (((((h92.trans h93).trans e97).trans h98).trans h99).trans h114)) (by omega)
          have x115_6 := u115.row (q6.ext (((((h92.trans h93).trans e97).trans h98).trans h99).trans h114)) (by omega)
          have x115_8 := u115.row (q8.ext (((((h92.trans h93).trans e97).trans h98).trans h99).trans h114)) (by omega)
          have x115_12 := u115.row (r97.ext ((h98.trans h99).trans h114)) (by omega)
          refine EA.back c113 ?_
          refine EA.take 3 (by kernel_rfl) ?_
          intro c116
          refine EX.ex rfl rfl rfl rfl (Exa.load flat3 rfl (x115_12.cell rfl)) ?_  -- 11.3: t60 := load
          refine EA.back c116 ?_
          refine EA.take 6 (by kernel_rfl) ?_
          intro c117
          refine EX.sil rfl rfl rfl rfl (Sil.fieldAddr Try.underlying43 rfl inf3 rfl) ?_  -- 11.6: t62 := fieldAddr
          refine EA.back c117 ?_
          refine EA.only 7 (by kernel_rfl) ?_
          intro c118
          refine EX.bar rfl rfl rfl rfl (fun w119 h119 => Stp.storeF (by kernel_rfl) rfl rfl (r115.ext h119) (show 3 + 1 ≤ 5 from by decide) rfl (fun w120 u120 r120 => ?_))  -- 11.7: tNone := store
          have r120 := (show Row _ _ _ [_, _, _, _, _] from r120)
          have b120 := (b115.trans h119).upd u120 (by omega)
          have x120_2 := u120.row (x115_2.ext h119) (by omega)
          have x120_3 := u120.row (x115_3.ext h119) (by omega)
          have x120_4 := u120.row (x115_4.ext h119) (by omega)
          have x120_6 := u120.row (x115_6.ext h119) (by omega)
          have x120_8 := u120.row (x115_8.ext h119) (by omega)
          have x120_12 := u120.row (x115_12.ext h119) (by omega)
          refine EA.back c118 ?_
          refine EA.nil (by kernel_rfl) (fun w121 h121 => ?_)
          refine AQ.join () [2, 3, 4, 6, 8, 9] rfl ⟨(b120.trans h121), (x120_2.ext h121), (x120_3.ext h121), (x120_4.ext h121), (x120_6.ext h121), (x120_8.ext h121), ?_⟩
          rw [show lineS inf (spZ (nodeO inf p)) p = some (lastD lnZ (inf.lines.filter (lnP (spZ (nodeO inf p)).at_ p))) from last_some hb2]
          exact (r120.ext h121)
      ·
        refine EC.skip ?_
        refine AQ.join () [2, 3, 4, 6, 8, 9] rfl ⟨(((((hE.trans h92).trans h93).trans e97).trans h98).trans h99), (q2.ext ((((h92.trans h93).trans e97).trans h98).trans h99)), (q3.ext ((((h92.trans h93).trans e97).trans h98).trans h99)), (q4.ext ((((h92.trans h93).trans e97).trans h98).trans h99)), (q6.ext ((((h92.trans h93).trans e97).trans h98).trans h99)), (q8.ext ((((h92.trans h93).trans e97).trans h98).trans h99)), ?_⟩
        rw [show lineS inf (spZ (nodeO inf p)) p = none from last_none hb2]
        exact (q9.ext ((((h92.trans h93).trans e97).trans h98).trans h99))
    obtain ⟨hE, q2, q3, q4, q6, q8, q9⟩ := hF
    refine EC.seq ?_
    -- region 12  locate.go:53
    refine EC.region (fun i => [1, 1, 0, 1, 2, 2, 1, 3].getD i 0) [0, 1, 2, 3, 4, 5, 6, 7] rfl ?_
    refine ER.sil rfl rfl rfl rfl (Sil.fieldAddr Try.underlying39 rfl inf36 rfl) ?_  -- 12.0: t63 := fieldAddr
    refine ER.sil rfl rfl rfl rfl (Sil.fieldAddr Try.underlying36 rfl inf32 rfl) ?_  -- 12.1: t64 := fieldAddr
    refine ER.ex rfl rfl rfl rfl (Exa.load flat32 rfl ((q2).cell hiv)) ?_  -- 12.2: t65 := load
    refine ER.sil rfl rfl rfl rfl (Sil.makeFunc rfl rfl) ?_  -- 12.3: t66 := makeFunc
    have hes := hE.size
    refine ER.st rfl rfl rfl rfl (fun w122 h122 => Stp.call fok28 rfl rfl (Calls.mono ((some_ilC_any iv _ w122 hil.isS3 ⟨_, _, _, rfl⟩)) ?_))  -- 12.4: t67 := call
    rintro _ w123 ⟨v123, rfl, h123, ⟨c1, c2, hv123, hc1123, hc2123, hl1, hl2⟩⟩
    refine ⟨_, rfl, h123, ?_⟩
    subst hv123
    have hes2 := h122.size
    have l9 := (q9.ext (h122.trans h123)).lt
    have l4b := (q4.ext (h122.trans h123)).lt
    refine ER.st rfl rfl rfl rfl (fun w124 h124 => Stp.call fok27 rfl rfl (Calls.mono ((collect_ilC (inf.inlines.filter (ilP p)) _ [ptr c1, ptr c2] (fun b => b < w124.heap.size ∨ b = c1 ∨ b = c2) w124 fok46 (fun b hb => hb.elim id (fun h => h.elim (fun e => e ▸ (hc1123.ext h124).lt) (fun e => e ▸ (hc2123.ext h124).lt))) (fun W hW => some_ilC_seq inf.inlines iv _ [ptr w3.heap.size] (ilP p) w124 c1 c2 W hW (hil.ext (((hE.trans h122).trans h123).trans h124)) fok29 (fun x wz hz => at4_any x p w3.heap.size wz (((q3.ext (h122.trans h123))).ext (h124.trans hz))) ((hc1123.ext h124).ext hW) ((hc2123.ext h124).ext hW)) hsl)) ?_))  -- 12.5: t68 := call
    rintro _ w125 ⟨v125, rfl, h125, hs125⟩
    refine ⟨_, rfl, h125, ?_⟩
    have hes3 := h124.size
    obtain ⟨va, vc, rfl, _⟩ := (LR.of_q ilL hs125).isS
    refine ER.sil rfl rfl rfl rfl (Sil.fieldAddr Try.underlying43 rfl inf32 rfl) ?_  -- 12.6: t69 := fieldAddr
    refine ER.bar rfl rfl rfl rfl (fun w126 h126 => Stp.storeF (by kernel_rfl) rfl rfl (q9.ext ((((h122.trans h123).trans h124).trans h125).trans h126)) (show 4 + 1 ≤ 5 from by decide) rfl (fun w127 u127 r127 => ?_))  -- 12.7: tNone := store
    have r127 := (show Row _ _ _ [_, _, _, _, _] from r127)
    have b127 := (((((hE.trans h122).trans h123).trans h124).trans h125).trans h126).upd u127 (by omega)
    have x127_4 := u127.row (q4.ext ((((h122.trans h123).trans h124).trans h125).trans h126)) (by omega)
    have y127_hs := OwnQ.upd u127 (hs125.ext h126) (fun k hk => by have := ((hs125.ext h126).lt k hk).1; omega)
    refine ER.nil (fun w128 h128 => ?_)
    refine AQ.then ?_
    refine EC.seq ?_
    -- region 13  locate.go:54
    refine EC.region (fun i => [1, 0, 3].getD i 0) [0, 1, 2] rfl ?_
    refine ER.sil rfl rfl rfl rfl (Sil.fieldAddr Try.underlying43 rfl inf32 rfl) ?_  -- 13.0: t70 := fieldAddr
    refine ER.ex rfl rfl rfl rfl (Exa.load flat32 rfl ((r127.ext h128).cell rfl)) ?_  -- 13.1: t71 := load
    --  -- 13.2: t72 := call
    refine ER.bar rfl rfl rfl rfl (fun w129 h129 => Stp.call fok30 rfl rfl (Calls.mono (reverse_any _ _ _ w129 ((y127_hs.ext h128).ext h129) hsl) ?_))
    rintro _ w130 ⟨rfl, M130, o130⟩
    refine ⟨_, rfl, ?_⟩
    have hlow := fun k hk => (((y127_hs.ext h128).ext h129).lt k hk).1
    have b130 := (((b127.trans h128).trans h129)).modify M130 (fun k hk => by have := hlow k hk; omega)
    have x130_4 := M130.row ((x127_4.ext h128).ext h129) (fun hk => by have := hlow _ hk; omega)
    have x130_9 := M130.row ((r127.ext h128).ext h129) (fun hk => by have := hlow _ hk; omega)
    refine ER.nil (fun w131 h131 => ?_)
    refine AQ.then ?_
    refine EC.seq ?_
    -- region 14  locate.go:55
    refine EC.region (fun i => [0, 3, 1].getD i 0) [0, 1, 2] rfl ?_
    refine ER.ex rfl rfl rfl rfl (Exa.loadAgg (by exact agg43) rfl ((x130_9.ext h131).at)) ?_  -- 14.0: t73 := load
    refine ER.bar rfl rfl rfl rfl (fun w132 h132 => Stp.store (by kernel_rfl) rfl rfl (x130_4.ext (h131.trans h132)) rfl rfl (fun w133 u133 r133 => ?_))  -- 14.1: tNone := store
    have b133 := ((b130.trans h131).trans h132).upd u133 hB4
    have y133_hr := OwnQ.upd u133 (o130.ext (h131.trans h132)) (fun k hk => by have := ((o130.ext (h131.trans h132)).lt k hk).1; omega)
    refine ER.sil rfl rfl rfl rfl (Sil.assign rfl) ?_  -- 14.2: t5 := assign
    refine ER.nil (fun w134 h134 => ?_)
    refine AQ.then ?_
    refine EC.ret ?_
    refine AQ.retCT Try.results7 rfl rfl (LV.agg (r133.ext h134) agg43) ?_
    have hat : atS inf p = ⟨funcS (markS inf (spZ (nodeO inf p)) p), offS (spZ (nodeO inf p)) p (markS inf (spZ (nodeO inf p)) p), fileS (lineS inf (spZ (nodeO inf p)) p), linS (lineS inf (spZ (nodeO inf p)) p), (inf.inlines.filter (ilP p)).reverse⟩ := at_eq hnb
    have hab : atB inf p = true := hnb
    rw [hat, hab]
    exact ⟨_, rfl, (b133.trans h134), LR.of_q ilL (by rw [List.length_reverse]; exact (y133_hr.ext h134))⟩

end Go.Proofs.Ytcgapppamhffjaa
