/- Locate: the example, small. -/
import Derived.Test.YtcgapppamhffjaaPlain
namespace Go.Proofs.Ytcgapppamhffjaa
open Go.RowKit Go.XK Go.LocateLaw

theorem built_image (a b c d e f : Value) : Try.prog.built 39 [(19, .agg #[a, b, c, d, e, f])] = some #[.string ByteArray.empty, .bool false, .int .i64 0, .int .i64 0, .int .i64 0, .string ByteArray.empty, .string ByteArray.empty, .int .i64 0, .slice none 0 0, .slice none 0 0, .slice none 0 0, .slice none 0 0, .slice none 0 0, .slice none 0 0, .slice none 0 0, .slice none 0 0, .int .i64 0, .slice none 0 0, .slice none 0 0, a, b, c, d, e, f, .slice none 0 0] := by kernel_rfl

-- linchpin/linchpinlaw42.Example: parameters [] (free 0), results [('ResultVar.cell', 0, 39)], 18 slots
set_option maxRecDepth 100000 in
theorem example_any (w : World) :
    Calls Try.prog 18 [].toArray w fun e w' => ∃ cs, e = .returned (.agg cs.toArray) ∧ Ext w w' ∧ InfC w' cs exI := by
  refine calls_of Try.func18 rfl Try.ntmps18 rfl ?_
  refine EC.seq ?_
  -- region 0  law.go:13
  refine EC.region (fun i => [2].getD i 0) [0] rfl ?_
  
  refine ER.st rfl rfl rfl rfl (fun w1 h1 => Stp.alloc inf39 (fun w2 h2 s2 r2 => ⟨h2, ?_⟩))  -- 0.0: t0 := alloc
  have mx0 := h1.size
  have nx0 := Nat.le_trans (Ext.refl _).size h1.size
  refine ER.nil (fun w3 h3 => ?_)
  refine AQ.then ?_
  refine EC.seq ?_
  -- region 1  law.go:14
  refine EC.region (fun i => [1, 2, 1, 1, 2, 1, 2, 3].getD i 0) [0, 1, 2, 3, 4, 5, 6, 7] rfl ?_
  refine ER.sil rfl rfl rfl rfl (Sil.build rfl rfl) ?_  -- 1.0: t2 := build
  have l_0 := (r2.ext h3).lt
  refine ER.st rfl rfl rfl rfl (fun w4 h4 => Stp.buildAll [_] Try.underlying31 inf61 rfl rfl rfl rfl rfl rfl (fun w5 h5 s5 r5 => ⟨h5, ?_⟩))  -- 1.1: t3 := buildSlice
  have mx3 := h4.size
  have nx3 := Nat.le_trans ((h1.trans h2).trans h3).size h4.size
  refine ER.sil rfl rfl rfl rfl (Sil.build rfl rfl) ?_  -- 1.2: t4 := build
  refine ER.sil rfl rfl rfl rfl (Sil.build rfl rfl) ?_  -- 1.3: t5 := build
  have l_3 := r5.lt
  refine ER.st rfl rfl rfl rfl (fun w6 h6 => Stp.buildAll [_, _] Try.underlying29 inf66 rfl rfl rfl rfl rfl rfl (fun w7 h7 s7 r7 => ⟨h7, ?_⟩))  -- 1.4: t6 := buildSlice
  have mx6 := h6.size
  have nx6 := Nat.le_trans ((((h1.trans h2).trans h3).trans h4).trans h5).size h6.size
  refine ER.sil rfl rfl rfl rfl (Sil.build rfl rfl) ?_  -- 1.5: t7 := build
  have l_6 := r7.lt
  refine ER.st rfl rfl rfl rfl (fun w8 h8 => Stp.alloc inf36 (fun w9 h9 s9 r9 => ⟨h9, ?_⟩))  -- 1.6: t1 := alloc
  have mx1 := h8.size
  have nx1 := Nat.le_trans ((((((h1.trans h2).trans h3).trans h4).trans h5).trans h6).trans h7).size h8.size
  refine ER.bar rfl rfl rfl rfl (fun w10 h10 => Stp.store (by kernel_rfl) rfl rfl (r9.ext h10) rfl rfl (fun w11 u11 r11 => ?_))  -- 1.7: tNone := store
  have e11 := ((h8.trans h9).trans h10).upd u11 h8.size
  refine ER.nil (fun w12 h12 => ?_)
  refine AQ.then ?_
  refine EC.seq ?_
  -- region 2  law.go:15
  refine EC.region (fun i => [1, 1, 1, 2, 1, 3].getD i 0) [0, 1, 2, 3, 4, 5] rfl ?_
  refine ER.sil rfl rfl rfl rfl (Sil.build rfl rfl) ?_  -- 2.0: t8 := build
  refine ER.sil rfl rfl rfl rfl (Sil.build rfl rfl) ?_  -- 2.1: t9 := build
  refine ER.sil rfl rfl rfl rfl (Sil.build rfl rfl) ?_  -- 2.2: t10 := build
  have l_1 := (r11.ext h12).lt
  refine ER.st rfl rfl rfl rfl (fun w13 h13 => Stp.buildAll [_, _, _] Try.underlying30 inf74 rfl rfl rfl rfl rfl rfl (fun w14 h14 s14 r14 => ⟨h14, ?_⟩))  -- 2.3: t11 := buildSlice
  have mx11 := h13.size
  have nx11 := Nat.le_trans ((((((((h1.trans h2).trans h3).trans h4).trans h5).trans h6).trans h7).trans e11).trans h12).size h13.size
  refine ER.sil rfl rfl rfl rfl (Sil.fieldAddr Try.underlying36 rfl inf30 rfl) ?_  -- 2.4: t12 := fieldAddr
  refine ER.bar rfl rfl rfl rfl (fun w15 h15 => Stp.storeF (by kernel_rfl) rfl rfl (r11.ext (((h12.trans h13).trans h14).trans h15)) (show 1 + 1 ≤ 6 from by decide) rfl (fun w16 u16 r16 => ?_))  -- 2.5: tNone := store
  have r16 := (show Row _ _ _ [_, _, _, _, _, _] from r16)
  have b16 := (((((((((((h1.trans h2).trans h3).trans h4).trans h5).trans h6).trans h7).trans e11).trans h12).trans h13).trans h14).trans h15).upd u16 nx1
  have x16_0 := u16.row (r2.ext (((((((((h3.trans h4).trans h5).trans h6).trans h7).trans e11).trans h12).trans h13).trans h14).trans h15)) (by omega)
  have x16_3 := u16.row (r5.ext ((((((h6.trans h7).trans e11).trans h12).trans h13).trans h14).trans h15)) (by omega)
  have x16_6 := u16.row (r7.ext ((((e11.trans h12).trans h13).trans h14).trans h15)) (by omega)
  have x16_11 := u16.row (r14.ext h15) (by omega)
  refine ER.nil (fun w17 h17 => ?_)
  refine AQ.then ?_
  refine EC.seq ?_
  -- region 3  law.go:16
  refine EC.region (fun i => [1, 2, 1, 3].getD i 0) [0, 1, 2, 3] rfl ?_
  refine ER.sil rfl rfl rfl rfl (Sil.build rfl rfl) ?_  -- 3.0: t13 := build
  have l_11 := (x16_11.ext h17).lt
  refine ER.st rfl rfl rfl rfl (fun w18 h18 => Stp.buildAll [_] Try.underlying32 inf57 rfl rfl rfl rfl rfl rfl (fun w19 h19 s19 r19 => ⟨h19, ?_⟩))  -- 3.1: t14 := buildSlice
  have mx14 := h18.size
  have nx14 := Nat.le_trans (b16.trans h17).size h18.size
  have l__14 := r19.lt
  refine ER.sil rfl rfl rfl rfl (Sil.fieldAddr Try.underlying36 rfl inf32 rfl) ?_  -- 3.2: t15 := fieldAddr
  refine ER.bar rfl rfl rfl rfl (fun w20 h20 => Stp.storeF (by kernel_rfl) rfl rfl (r16.ext (((h17.trans h18).trans h19).trans h20)) (show 3 + 1 ≤ 6 from by decide) rfl (fun w21 u21 r21 => ?_))  -- 3.3: tNone := store
  have r21 := (show Row _ _ _ [_, _, _, _, _, _] from r21)
  have b21 := ((((b16.trans h17).trans h18).trans h19).trans h20).upd u21 nx1
  have x21_0 := u21.row (x16_0.ext (((h17.trans h18).trans h19).trans h20)) (by omega)
  have x21_3 := u21.row (x16_3.ext (((h17.trans h18).trans h19).trans h20)) (by omega)
  have x21_6 := u21.row (x16_6.ext (((h17.trans h18).trans h19).trans h20)) (by omega)
  have x21_11 := u21.row (x16_11.ext (((h17.trans h18).trans h19).trans h20)) (by omega)
  have x21_14 := u21.row (r19.ext h20) (by omega)
  refine ER.nil (fun w22 h22 => ?_)
  refine AQ.then ?_
  refine EC.seq ?_
  -- region 4  law.go:17
  refine EC.region (fun i => [0, 1, 3].getD i 0) [0, 1, 2] rfl ?_
  refine ER.ex rfl rfl rfl rfl (Exa.loadAgg (vs := [_, _, _, _, _, _]) agg36 rfl ((r21.ext h22).at)) ?_  -- 4.0: t16 := load
  refine ER.sil rfl rfl rfl rfl (Sil.build rfl (built_image _ _ _ _ _ _)) ?_  -- 4.1: t17 := build
  refine ER.bar rfl rfl rfl rfl (fun w23 h23 => Stp.store (by kernel_rfl) rfl rfl (x21_0.ext (h22.trans h23)) rfl rfl (fun w24 u24 r24 => ?_))  -- 4.2: tNone := store
  have b24 := ((b21.trans h22).trans h23).upd u24 nx0
  have x24_3 := u24.row (x21_3.ext (h22.trans h23)) (by omega)
  have x24_6 := u24.row (x21_6.ext (h22.trans h23)) (by omega)
  have x24_11 := u24.row (x21_11.ext (h22.trans h23)) (by omega)
  have x24_14 := u24.row (x21_14.ext (h22.trans h23)) (by omega)
  refine ER.nil (fun w25 h25 => ?_)
  refine AQ.then ?_
  refine EC.ret ?_
  refine AQ.retC Try.results18 rfl (r24.ext h25) agg39 ?_
  refine ⟨_, rfl, (b24.trans h25), rfl, ⟨_, rfl, LR.of_map (l := exI.marks) mkL (Reads.of_row (x24_6.ext h25) rfl (by decide))⟩, ⟨_, rfl, LR.of_map (l := exI.lines) lnL (Reads.of_row (x24_11.ext h25) rfl (by decide))⟩, ⟨_, rfl, LR.of_map (l := exI.ends) spL (Reads.of_row (x24_3.ext h25) rfl (by decide))⟩, ⟨_, rfl, LR.of_map (l := exI.inlines) ilL (Reads.of_row (x24_14.ext h25) rfl (by decide))⟩, ⟨_, rfl, LR.nil _⟩, ?_⟩
  exact fun q hq => List.all_eq_true.1 (rfl : List.all _ (fun q => q.oneCell') = true) q hq

-- linchpin/linchpinlaw42.small: parameters [] (free 0), results [('ResultVar.tmp', 0)], 113 slots
set_option maxRecDepth 100000 in
theorem small_any (w : World) :
    Calls Try.prog 5 [].toArray w fun e w' => e = .returned (.bool true) ∧ Ext w w' := by
  refine calls_of Try.func5 rfl Try.ntmps5 rfl ?_
  refine EC.seq ?_
  -- region 0  law.go:21
  refine EC.region (fun i => [1].getD i 0) [0] rfl ?_
  refine ER.sil rfl rfl rfl rfl (Sil.assign rfl) ?_  -- 0.0: t0 := assign
  refine ER.nil (fun w1 h1 => ?_)
  refine AQ.then ?_
  refine EC.seq ?_
  -- region 1  law.go:22
  refine EC.region (fun i => [2, 2, 3].getD i 0) [0, 1, 2] rfl ?_
  refine ER.st rfl rfl rfl rfl (fun w2 h2 => Stp.call fok18 rfl rfl (Calls.mono ((example_any w2)) ?_))  -- 1.0: t11 := call
  rintro _ w3 ⟨v3, rfl, h3, hi3⟩
  refine ⟨_, rfl, h3, ?_⟩
  generalize hcs0 : v3 = cs0 at *
  refine ER.st rfl rfl rfl rfl (fun w4 h4 => Stp.alloc inf39 (fun w5 h5 s5 r5 => ⟨h5, ?_⟩))  -- 1.1: t1 := alloc
  refine ER.bar rfl rfl rfl rfl (fun w6 h6 => Stp.store (im_sz (hi3.ext (h4.trans h5)).len) rfl rfl (r5.ext h6) (ag_len (hi3.ext (h4.trans h5)).len) (ag_one (hi3.ext (h4.trans h5)).2.2.2.2.2.2) (fun w7 u7 r7 => ?_))  -- 1.2: tNone := store
  have e7 := ((h4.trans h5).trans h6).upd u7 h4.size
  refine ER.nil (fun w8 h8 => ?_)
  refine AQ.then ?_
  refine EC.seq ?_
  -- region 2  law.go:23
  refine EC.region (fun i => [0, 2, 1, 1, 1, 2, 3, 1].getD i 0) [0, 1, 2, 3, 4, 5, 6, 7] rfl ?_
  refine ER.ex rfl rfl rfl rfl (Exa.loadAgg (vs := cs0) (by rw [(hi3.ext (e7.trans h8)).len]; exact agg39) rfl ((r7.ext h8).at)) ?_  -- 2.0: t13 := load
  refine ER.st rfl rfl rfl rfl (fun w9 h9 => Stp.call fok7 rfl rfl (Calls.mono ((at_any cs0 exI 16 w9 ((hi3.ext (e7.trans h8)).ext h9) (by decide))) ?_))  -- 2.1: t14 := call
  rintro _ w10 ⟨v10, rfl, h10, la10⟩
  refine ⟨_, rfl, h10, ?_⟩
  rw [ex16, exb16]
  rw [ex16] at la10
  obtain ⟨a10, c10, rfl, _⟩ := LR.isS la10
  refine ER.sil rfl rfl rfl rfl (Sil.move rfl) ?_  -- 2.2: t12 := move
  refine ER.sil rfl rfl rfl rfl (Sil.extract rfl rfl) ?_  -- 2.3: t15 := extract
  refine ER.sil rfl rfl rfl rfl (Sil.extract rfl rfl) ?_  -- 2.4: t16 := extract
  refine ER.st rfl rfl rfl rfl (fun w11 h11 => Stp.alloc inf43 (fun w12 h12 s12 r12 => ⟨h12, ?_⟩))  -- 2.5: t2 := alloc
  refine ER.bar rfl rfl rfl rfl (fun w13 h13 => Stp.store (by kernel_rfl) rfl rfl (r12.ext h13) rfl rfl (fun w14 u14 r14 => ?_))  -- 2.6: tNone := store
  have e14 := ((h11.trans h12).trans h13).upd u14 h11.size
  refine ER.sil rfl rfl rfl rfl (Sil.assign rfl) ?_  -- 2.7: t3 := assign
  refine ER.nil (fun w15 h15 => ?_)
  refine AQ.then ?_
  refine EC.seq ?_
  -- region 3  law.go:24
  refine EC.region (fun i => [0, 2, 1, 1, 1, 2, 3, 1].getD i 0) [0, 1, 2, 3, 4, 5, 6, 7] rfl ?_
  refine ER.ex rfl rfl rfl rfl (Exa.loadAgg (vs := cs0) (by rw [(hi3.ext (((((e7.trans h8).trans h9).trans h10).trans e14).trans h15)).len]; exact agg39) rfl ((r7.ext ((((h8.trans h9).trans h10).trans e14).trans h15)).at)) ?_  -- 3.0: t18 := load
  refine ER.st rfl rfl rfl rfl (fun w16 h16 => Stp.call fok7 rfl rfl (Calls.mono ((at_any cs0 exI 40 w16 ((hi3.ext (((((e7.trans h8).trans h9).trans h10).trans e14).trans h15)).ext h16) (by decide))) ?_))  -- 3.1: t19 := call
  rintro _ w17 ⟨v17, rfl, h17, lb17⟩
  refine ⟨_, rfl, h17, ?_⟩
  rw [ex40, exb40]
  rw [ex40] at lb17
  obtain ⟨a17, c17, rfl, _⟩ := LR.isS lb17
  refine ER.sil rfl rfl rfl rfl (Sil.move rfl) ?_  -- 3.2: t17 := move
  refine ER.sil rfl rfl rfl rfl (Sil.extract rfl rfl) ?_  -- 3.3: t20 := extract
  refine ER.sil rfl rfl rfl rfl (Sil.extract rfl rfl) ?_  -- 3.4: t21 := extract
  refine ER.st rfl rfl rfl rfl (fun w18 h18 => Stp.alloc inf43 (fun w19 h19 s19 r19 => ⟨h19, ?_⟩))  -- 3.5: t4 := alloc
  refine ER.bar rfl rfl rfl rfl (fun w20 h20 => Stp.store (by kernel_rfl) rfl rfl (r19.ext h20) rfl rfl (fun w21 u21 r21 => ?_))  -- 3.6: tNone := store
  have e21 := ((h18.trans h19).trans h20).upd u21 h18.size
  refine ER.sil rfl rfl rfl rfl (Sil.assign rfl) ?_  -- 3.7: t5 := assign
  refine ER.nil (fun w22 h22 => ?_)
  refine AQ.then ?_
  refine EC.seq ?_
  -- region 4  law.go:25
  refine EC.region (fun i => [0, 2, 1, 1, 1, 2, 3, 1].getD i 0) [0, 1, 2, 3, 4, 5, 6, 7] rfl ?_
  refine ER.ex rfl rfl rfl rfl (Exa.loadAgg (vs := cs0) (by rw [(hi3.ext (((((((((e7.trans h8).trans h9).trans h10).trans e14).trans h15).trans h16).trans h17).trans e21).trans h22)).len]; exact agg39) rfl ((r7.ext ((((((((h8.trans h9).trans h10).trans e14).trans h15).trans h16).trans h17).trans e21).trans h22)).at)) ?_  -- 4.0: t23 := load
  refine ER.st rfl rfl rfl rfl (fun w23 h23 => Stp.call fok7 rfl rfl (Calls.mono ((at_any cs0 exI 64 w23 ((hi3.ext (((((((((e7.trans h8).trans h9).trans h10).trans e14).trans h15).trans h16).trans h17).trans e21).trans h22)).ext h23) (by decide))) ?_))  -- 4.1: t24 := call
  rintro _ w24 ⟨v24, rfl, h24, lc24⟩
  refine ⟨_, rfl, h24, ?_⟩
  rw [exb64]
  obtain ⟨a24, c24, rfl, _⟩ := LR.isS lc24
  refine ER.sil rfl rfl rfl rfl (Sil.move rfl) ?_  -- 4.2: t22 := move
  refine ER.sil rfl rfl rfl rfl (Sil.extract rfl rfl) ?_  -- 4.3: t25 := extract
  refine ER.sil rfl rfl rfl rfl (Sil.extract rfl rfl) ?_  -- 4.4: t26 := extract
  refine ER.st rfl rfl rfl rfl (fun w25 h25 => Stp.alloc inf43 (fun w26 h26 s26 r26 => ⟨h26, ?_⟩))  -- 4.5: t6 := alloc
  refine ER.bar rfl rfl rfl rfl (fun w27 h27 => Stp.store (by kernel_rfl) rfl rfl (r26.ext h27) rfl rfl (fun w28 u28 r28 => ?_))  -- 4.6: tNone := store
  have e28 := ((h25.trans h26).trans h27).upd u28 h25.size
  refine ER.sil rfl rfl rfl rfl (Sil.assign rfl) ?_  -- 4.7: t7 := assign
  refine ER.nil (fun w29 h29 => ?_)
  refine AQ.then ?_
  refine EC.seq ?_
  -- region 5  law.go:26
  refine EC.region (fun i => [0, 0, 1, 1, 1, 1, 1].getD i 0) [0, 1, 2, 3, 4, 5, 6] rfl ?_
  refine ER.ex rfl rfl rfl rfl (Exa.loadAgg (vs := cs0) (by rw [(hi3.ext (((((((((((((e7.trans h8).trans h9).trans h10).trans e14).trans h15).trans h16).trans h17).trans e21).trans h22).trans h23).trans h24).trans e28).trans h29)).len]; exact agg39) rfl ((r7.ext ((((((((((((h8.trans h9).trans h10).trans e14).trans h15).trans h16).trans h17).trans e21).trans h22).trans h23).trans h24).trans e28).trans h29)).at)) ?_  -- 5.0: t28 := load
  refine ER.ex rfl rfl rfl rfl (Exa.call fok9 rfl rfl (fun wx hx => (find_any cs0 exI bg wx ((hi3.ext (((((((((((((e7.trans h8).trans h9).trans h10).trans e14).trans h15).trans h16).trans h17).trans e21).trans h22).trans h23).trans h24).trans e28).trans h29)).ext hx)))) ?_  -- 5.1: t29 := call
  rw [exf, exfb]
  refine ER.sil rfl rfl rfl rfl (Sil.move rfl) ?_  -- 5.2: t27 := move
  refine ER.sil rfl rfl rfl rfl (Sil.extract rfl rfl) ?_  -- 5.3: t30 := extract
  refine ER.sil rfl rfl rfl rfl (Sil.extract rfl rfl) ?_  -- 5.4: t31 := extract
  refine ER.sil rfl rfl rfl rfl (Sil.assign rfl) ?_  -- 5.5: t8 := assign
  refine ER.sil rfl rfl rfl rfl (Sil.assign rfl) ?_  -- 5.6: t9 := assign
  refine ER.nil (fun w30 h30 => ?_)
  refine AQ.then ?_
  refine EC.seq ?_
  -- region 6  law.go:27
  refine EC.region (fun i => [0, 2, 1].getD i 0) [0, 1, 2] rfl ?_
  refine ER.ex rfl rfl rfl rfl (Exa.loadAgg (vs := cs0) (by rw [(hi3.ext ((((((((((((((e7.trans h8).trans h9).trans h10).trans e14).trans h15).trans h16).trans h17).trans e21).trans h22).trans h23).trans h24).trans e28).trans h29).trans h30)).len]; exact agg39) rfl ((r7.ext (((((((((((((h8.trans h9).trans h10).trans e14).trans h15).trans h16).trans h17).trans e21).trans h22).trans h23).trans h24).trans e28).trans h29).trans h30)).at)) ?_  -- 6.0: t32 := load
  refine ER.st rfl rfl rfl rfl (fun w31 h31 => Stp.call fok16 rfl rfl (Calls.mono ((of_any cs0 exI ba 11 w31 ((hi3.ext ((((((((((((((e7.trans h8).trans h9).trans h10).trans e14).trans h15).trans h16).trans h17).trans e21).trans h22).trans h23).trans h24).trans e28).trans h29).trans h30)).ext h31) (by decide))) ?_))  -- 6.1: t33 := call
  rintro _ w32 ⟨v32, rfl, h32, lo32⟩
  refine ⟨_, rfl, h32, ?_⟩
  rw [exo] at lo32
  refine ER.sil rfl rfl rfl rfl (Sil.assign rfl) ?_  -- 6.2: t10 := assign
  refine ER.nil (fun w33 h33 => ?_)
  refine AQ.then ?_
  refine EC.seq ?_
  refine EC.seq ?_
  -- region 7  law.go:28
  refine EC.region (fun i => [1, 0, 1, 1, 1, 1, 1, 1, 1].getD i 0) [0, 1, 2, 3, 4, 5, 6, 7, 8] rfl ?_
  refine ER.sil rfl rfl rfl rfl (Sil.fieldAddr Try.underlying43 rfl inf32 rfl) ?_  -- 7.0: t34 := fieldAddr
  refine ER.ex rfl rfl rfl rfl (Exa.load flat32 rfl ((r14.ext ((((((((((((h15.trans h16).trans h17).trans e21).trans h22).trans h23).trans h24).trans e28).trans h29).trans h30).trans h31).trans h32).trans h33)).cell rfl)) ?_  -- 7.1: t35 := load
  refine ER.sil rfl rfl rfl rfl (Sil.len Try.underlying32 rfl) ?_  -- 7.2: t36 := call
  refine ER.sil rfl rfl rfl rfl (Sil.neq rfl rfl) ?_  -- 7.3: t37 := binOp
  refine ER.sil rfl rfl rfl rfl (Sil.move rfl) ?_  -- 7.4: t38 := move
  refine ER.silG rfl rfl rfl rfl rfl rfl (fun hc => Sil.move rfl) ?_  -- 7.5: t39 := move
  refine ER.silG rfl rfl rfl rfl rfl rfl (fun hc => Sil.lenR Try.underlying25 (congrArg some (sel_eq hc _)) ((lo32.ext h33).isS)) ?_  -- 7.6: t40 := call
  refine ER.silG rfl rfl rfl rfl rfl rfl (fun hc => Sil.neq (congrArg some (sel_eq hc _)) rfl) ?_  -- 7.7: t41 := binOp
  refine ER.sil rfl rfl rfl rfl (Sil.pickOr rfl rfl rfl) ?_  -- 7.8: t42 := pick
  refine ER.nil (fun w34 h34 => ?_)
  refine AQ.then ?_
  refine EC.cond rfl (fun hb0 => ?_) (fun hb0 => ?_)  -- cond 0: t42
  ·
    exact absurd hb0 (by decide)
  ·
    refine EC.skip ?_
    refine AQ.then ?_
    refine EC.seq ?_
    -- region 9  law.go:31
    refine EC.region (fun i => [1, 1, 1, 0, 1, 1, 1, 1, 0, 1, 1, 1, 1, 0, 1, 1, 1, 1, 0, 1, 1, 1, 1, 0, 1, 1, 0, 1, 1, 1, 1, 1, 1, 1, 0, 1, 1, 1, 1, 0, 1, 1, 1, 1, 0, 1, 1, 1, 1, 0, 1, 1, 1, 1, 1, 1, 1, 1, 1, 1, 1, 1, 1, 1, 1, 1, 1, 0, 1, 1, 1].getD i 0) [0, 1, 2, 3, 4, 5, 6, 7, 8, 9, 10, 11, 12, 13, 14, 15, 16, 17, 18, 19, 20, 21, 22, 23, 24, 25, 26, 27, 28, 29, 30, 31, 32, 33, 34, 35, 36, 37, 38, 39, 40, 41, 42, 43, 44, 45, 46, 47, 48, 49, 50, 51, 52, 53, 54, 55, 56, 57, 58, 59, 60, 61, 62, 63, 64, 65, 66, 67, 68, 69, 70] rfl ?_
    refine ER.sil rfl rfl rfl rfl (Sil.move rfl) ?_  -- 9.0: t43 := move
    refine ER.sil rfl rfl rfl rfl (Sil.move rfl) ?_  -- 9.1: t44 := move
    refine ER.silG rfl rfl rfl rfl rfl rfl (fun hc => Sil.fieldAddr Try.underlying43 rfl inf9 rfl) ?_  -- 9.2: t45 := fieldAddr
    refine ER.exG rfl rfl rfl rfl rfl rfl (fun hc => Exa.load flat9 (congrArg some (sel_eq hc _)) ((r14.ext (((((((((((((h15.trans h16).trans h17).trans e21).trans h22).trans h23).trans h24).trans e28).trans h29).trans h30).trans h31).trans h32).trans h33).trans h34)).cell rfl)) ?_  -- 9.3: t46 := load
    refine ER.silG rfl rfl rfl rfl rfl rfl (fun hc => Sil.seql (congrArg some (sel_eq hc _)) rfl) ?_  -- 9.4: t47 := binOp
    refine ER.sil rfl rfl rfl rfl (Sil.pickAnd rfl rfl rfl) ?_  -- 9.5: t48 := pick
    refine ER.sil rfl rfl rfl rfl (Sil.move rfl) ?_  -- 9.6: t49 := move
    refine ER.silG rfl rfl rfl rfl rfl rfl (fun hc => Sil.fieldAddr Try.underlying43 rfl inf3 rfl) ?_  -- 9.7: t50 := fieldAddr
    refine ER.exG rfl rfl rfl rfl rfl rfl (fun hc => Exa.load flat3 (congrArg some (sel_eq hc _)) ((r14.ext (((((((((((((h15.trans h16).trans h17).trans e21).trans h22).trans h23).trans h24).trans e28).trans h29).trans h30).trans h31).trans h32).trans h33).trans h34)).cell rfl)) ?_  -- 9.8: t51 := load
    refine ER.silG rfl rfl rfl rfl rfl rfl (fun hc => Sil.eql (congrArg some (sel_eq hc _)) rfl) ?_  -- 9.9: t52 := binOp
    refine ER.sil rfl rfl rfl rfl (Sil.pickAnd rfl rfl rfl) ?_  -- 9.10: t53 := pick
    refine ER.sil rfl rfl rfl rfl (Sil.move rfl) ?_  -- 9.11: t54 := move
    refine ER.silG rfl rfl rfl rfl rfl rfl (fun hc => Sil.fieldAddr Try.underlying43 rfl inf9 rfl) ?_  -- 9.12: t55 := fieldAddr
    refine ER.exG rfl rfl rfl rfl rfl rfl (fun hc => Exa.load flat9 (congrArg some (sel_eq hc _)) ((r14.ext (((((((((((((h15.trans h16).trans h17).trans e21).trans h22).trans h23).trans h24).trans e28).trans h29).trans h30).trans h31).trans h32).trans h33).trans h34)).cell rfl)) ?_  -- 9.13: t56 := load
    refine ER.silG rfl rfl rfl rfl rfl rfl (fun hc => Sil.seql (congrArg some (sel_eq hc _)) rfl) ?_  -- 9.14: t57 := binOp
    refine ER.sil rfl rfl rfl rfl (Sil.pickAnd rfl rfl rfl) ?_  -- 9.15: t58 := pick
    refine ER.sil rfl rfl rfl rfl (Sil.move rfl) ?_  -- 9.16: t59 := move
    refine ER.silG rfl rfl rfl rfl rfl rfl (fun hc => Sil.fieldAddr Try.underlying43 rfl inf3 rfl) ?_  -- 9.17: t60 := fieldAddr
    refine ER.exG rfl rfl rfl rfl rfl rfl (fun hc => Exa.load flat3 (congrArg some (sel_eq hc _)) ((r14.ext (((((((((((((h15.trans h16).trans h17).trans e21).trans h22).trans h23).trans h24).trans e28).trans h29).trans h30).trans h31).trans h32).trans h33).trans h34)).cell rfl)) ?_  -- 9.18: t61 := load
    refine ER.silG rfl rfl rfl rfl rfl rfl (fun hc => Sil.eql (congrArg some (sel_eq hc _)) rfl) ?_  -- 9.19: t62 := binOp
    refine ER.sil rfl rfl rfl rfl (Sil.pickAnd rfl rfl rfl) ?_  -- 9.20: t63 := pick
    refine ER.sil rfl rfl rfl rfl (Sil.move rfl) ?_  -- 9.21: t64 := move
    refine ER.silG rfl rfl rfl rfl rfl rfl (fun hc => Sil.fieldAddr Try.underlying43 rfl inf32 rfl) ?_  -- 9.22: t65 := fieldAddr
    refine ER.exG rfl rfl rfl rfl rfl rfl (fun hc => Exa.load flat32 (congrArg some (sel_eq hc _)) ((r14.ext (((((((((((((h15.trans h16).trans h17).trans e21).trans h22).trans h23).trans h24).trans e28).trans h29).trans h30).trans h31).trans h32).trans h33).trans h34)).cell rfl)) ?_  -- 9.23: t66 := load
    refine ER.silG rfl rfl rfl rfl rfl rfl (fun hc => Sil.indexR Try.underlying32 inf57 (congrArg some (sel_eq hc _)) rfl ((la10.ext ((((((((((((((e14.trans h15).trans h16).trans h17).trans e21).trans h22).trans h23).trans h24).trans e28).trans h29).trans h30).trans h31).trans h32).trans h33).trans h34)).isE (by decide)) (by decide) (by decide)) ?_  -- 9.24: t67 := indexAddr
    refine ER.silG rfl rfl rfl rfl rfl rfl (fun hc => Sil.fieldAddr Try.underlying57 rfl inf9 (congrArg some (sel_eq hc _))) ?_  -- 9.25: t68 := fieldAddr
    refine ER.exG rfl rfl rfl rfl rfl rfl (fun hc => Exa.load flat9 (congrArg some (sel_eq hc _)) (((la10.ext ((((((((((((((e14.trans h15).trans h16).trans h17).trans e21).trans h22).trans h23).trans h24).trans e28).trans h29).trans h30).trans h31).trans h32).trans h33).trans h34)).at (show 0 < _ by decide)) 3 _ rfl)) ?_  -- 9.26: t69 := load
    refine ER.silG rfl rfl rfl rfl rfl rfl (fun hc => Sil.seql (congrArg some (sel_eq hc _)) rfl) ?_  -- 9.27: t70 := binOp
    refine ER.sil rfl rfl rfl rfl (Sil.pickAnd rfl rfl rfl) ?_  -- 9.28: t71 := pick
    refine ER.sil rfl rfl rfl rfl (Sil.move rfl) ?_  -- 9.29: t72 := move
    refine ER.silG rfl rfl rfl rfl rfl rfl (fun hc => Sil.move rfl) ?_  -- 9.30: t73 := move
    refine ER.sil rfl rfl rfl rfl (Sil.pickAnd rfl rfl rfl) ?_  -- 9.31: t74 := pick
    refine ER.sil rfl rfl rfl rfl (Sil.move rfl) ?_  -- 9.32: t75 := move
    refine ER.silG rfl rfl rfl rfl rfl rfl (fun hc => Sil.fieldAddr Try.underlying43 rfl inf9 rfl) ?_  -- 9.33: t76 := fieldAddr
    refine ER.exG rfl rfl rfl rfl rfl rfl (fun hc => Exa.load flat9 (congrArg some (sel_eq hc _)) ((r21.ext (((((((((h22.trans h23).trans h24).trans e28).trans h29).trans h30).trans h31).trans h32).trans h33).trans h34)).cell rfl)) ?_  -- 9.34: t77 := load
    refine ER.silG rfl rfl rfl rfl rfl rfl (fun hc => Sil.seql (congrArg some (sel_eq hc _)) rfl) ?_  -- 9.35: t78 := binOp
    refine ER.sil rfl rfl rfl rfl (Sil.pickAnd rfl rfl rfl) ?_  -- 9.36: t79 := pick
    refine ER.sil rfl rfl rfl rfl (Sil.move rfl) ?_  -- 9.37: t80 := move
    refine ER.silG rfl rfl rfl rfl rfl rfl (fun hc => Sil.fieldAddr Try.underlying43 rfl inf3 rfl) ?_  -- 9.38: t81 := fieldAddr
    refine ER.exG rfl rfl rfl rfl rfl rfl (fun hc => Exa.load flat3 (congrArg some (sel_eq hc _)) ((r21.ext (((((((((h22.trans h23).trans h24).trans e28).trans h29).trans h30).trans h31).trans h32).trans h33).trans h34)).cell rfl)) ?_  -- 9.39: t82 := load
    refine ER.silG rfl rfl rfl rfl rfl rfl (fun hc => Sil.eql (congrArg some (sel_eq hc _)) rfl) ?_  -- 9.40: t83 := binOp
    refine ER.sil rfl rfl rfl rfl (Sil.pickAnd rfl rfl rfl) ?_  -- 9.41: t84 := pick
    refine ER.sil rfl rfl rfl rfl (Sil.move rfl) ?_  -- 9.42: t85 := move
    refine ER.silG rfl rfl rfl rfl rfl rfl (fun hc => Sil.fieldAddr Try.underlying43 rfl inf3 rfl) ?_  -- 9.43: t86 := fieldAddr
    refine ER.exG rfl rfl rfl rfl rfl rfl (fun hc => Exa.load flat3 (congrArg some (sel_eq hc _)) ((r21.ext (((((((((h22.trans h23).trans h24).trans e28).trans h29).trans h30).trans h31).trans h32).trans h33).trans h34)).cell rfl)) ?_  -- 9.44: t87 := load
    refine ER.silG rfl rfl rfl rfl rfl rfl (fun hc => Sil.eql (congrArg some (sel_eq hc _)) rfl) ?_  -- 9.45: t88 := binOp
    refine ER.sil rfl rfl rfl rfl (Sil.pickAnd rfl rfl rfl) ?_  -- 9.46: t89 := pick
    refine ER.sil rfl rfl rfl rfl (Sil.move rfl) ?_  -- 9.47: t90 := move
    refine ER.silG rfl rfl rfl rfl rfl rfl (fun hc => Sil.fieldAddr Try.underlying43 rfl inf32 rfl) ?_  -- 9.48: t91 := fieldAddr
    refine ER.exG rfl rfl rfl rfl rfl rfl (fun hc => Exa.load flat32 (congrArg some (sel_eq hc _)) ((r21.ext (((((((((h22.trans h23).trans h24).trans e28).trans h29).trans h30).trans h31).trans h32).trans h33).trans h34)).cell rfl)) ?_  -- 9.49: t92 := load
    refine ER.silG rfl rfl rfl rfl rfl rfl (fun hc => Sil.len Try.underlying32 (congrArg some (sel_eq hc _))) ?_  -- 9.50: t93 := call
    refine ER.silG rfl rfl rfl rfl rfl rfl (fun hc => Sil.eql (congrArg some (sel_eq hc _)) rfl) ?_  -- 9.51: t94 := binOp
    refine ER.sil rfl rfl rfl rfl (Sil.pickAnd rfl rfl rfl) ?_  -- 9.52: t95 := pick
    refine ER.sil rfl rfl rfl rfl (Sil.move rfl) ?_  -- 9.53: t96 := move
    refine ER.silG rfl rfl rfl rfl rfl rfl (fun hc => Sil.move rfl) ?_  -- 9.54: t97 := move
    refine ER.silG rfl rfl rfl rfl rfl rfl (fun hc => Sil.not (congrArg some (sel_eq hc _))) ?_  -- 9.55: t98 := unOp
    refine ER.sil rfl rfl rfl rfl (Sil.pickAnd rfl rfl rfl) ?_  -- 9.56: t99 := pick
    refine ER.sil rfl rfl rfl rfl (Sil.move rfl) ?_  -- 9.57: t100 := move
    refine ER.silG rfl rfl rfl rfl rfl rfl (fun hc => Sil.move rfl) ?_  -- 9.58: t101 := move
    refine ER.silG rfl rfl rfl rfl rfl rfl (fun hc => Sil.eql (congrArg some (sel_eq hc _)) rfl) ?_  -- 9.59: t102 := binOp
    refine ER.sil rfl rfl rfl rfl (Sil.pickAnd rfl rfl rfl) ?_  -- 9.60: t103 := pick
    refine ER.sil rfl rfl rfl rfl (Sil.move rfl) ?_  -- 9.61: t104 := move
    refine ER.silG rfl rfl rfl rfl rfl rfl (fun hc => Sil.move rfl) ?_  -- 9.62: t105 := move
    refine ER.sil rfl rfl rfl rfl (Sil.pickAnd rfl rfl rfl) ?_  -- 9.63: t106 := pick
    refine ER.sil rfl rfl rfl rfl (Sil.move rfl) ?_  -- 9.64: t107 := move
    refine ER.silG rfl rfl rfl rfl rfl rfl (fun hc => Sil.move rfl) ?_  -- 9.65: t108 := move
    refine ER.silG rfl rfl rfl rfl rfl rfl (fun hc => Sil.indexR Try.underlying25 inf3 (congrArg some (sel_eq hc _)) rfl ((lo32.ext (h33.trans h34)).isE (by decide)) (by decide) (by decide)) ?_  -- 9.66: t109 := indexAddr
    refine ER.exG rfl rfl rfl rfl rfl rfl (fun hc => Exa.load flat3 (congrArg some (sel_eq hc _)) (((lo32.ext (h33.trans h34)).at (show 0 < _ by decide)) 0 _ rfl)) ?_  -- 9.67: t110 := load
    refine ER.silG rfl rfl rfl rfl rfl rfl (fun hc => Sil.eql (congrArg some (sel_eq hc _)) rfl) ?_  -- 9.68: t111 := binOp
    refine ER.sil rfl rfl rfl rfl (Sil.pickAnd rfl rfl rfl) ?_  -- 9.69: t112 := pick
    refine ER.sil rfl rfl rfl rfl (Sil.assign rfl) ?_  -- 9.70: t0 := assign
    refine ER.nil (fun w35 h35 => ?_)
    refine AQ.then ?_
    refine EC.ret ?_
    refine AQ.ret1 Try.results5 rfl ?_
    exact ⟨by rfl, ((((((((((((((((((((((h1.trans h2).trans h3).trans e7).trans h8).trans h9).trans h10).trans e14).trans h15).trans h16).trans h17).trans e21).trans h22).trans h23).trans h24).trans e28).trans h29).trans h30).trans h31).trans h32).trans h33).trans h34).trans h35)⟩

end Go.Proofs.Ytcgapppamhffjaa
