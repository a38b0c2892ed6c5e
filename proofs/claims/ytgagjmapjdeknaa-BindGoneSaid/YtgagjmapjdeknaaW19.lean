/- Bind: the examples. -/
import Derived.Test.YtgagjmapjdeknaaW18
namespace Go.Proofs.Ytgagjmapjdeknaa
open Go.RowKit Go.XK Go.BindLaw

def All2 {α β : Type} (Q : α → β → Prop) : List α → List β → Prop
  | [], [] => True
  | a :: xs, b :: ys => Q a b ∧ All2 Q xs ys
  | _, _ => False
theorem All2.get {α β : Type} {Q : α → β → Prop} : ∀ {xs : List α} {ys : List β}, All2 Q xs ys → xs.length = ys.length ∧ ∀ i (h1 : i < xs.length) (h2 : i < ys.length), Q xs[i] ys[i]
  | [], [], _ => ⟨rfl, fun i h => absurd h (Nat.not_lt_zero i)⟩
  | a :: xs, b :: ys, h => by
    obtain ⟨h1, h2⟩ := All2.get h.2
    refine ⟨by simp [h1], fun i i1 i2 => ?_⟩
    cases i with
    | zero => exact h.1
    | succ i => exact h2 i (by simpa using i1) (by simpa using i2)
theorem ListR.of_rows {β : Type} {w : World} {K b : Nat} {T : TypeId} {Q : List Value → β → Prop} {css : List (List Value)} {bs : List β} (h : Row w b T css.flatten) (hK : ∀ c ∈ css, c.length = K) (hm : bs.length ≤ maxLen) (hQ : All2 Q css bs) : ListR w K (.slice (some ⟨b, 0, none⟩) bs.length bs.length) Q bs := by
  obtain ⟨h1, h2⟩ := hQ.get
  refine ⟨css, ⟨?_, hK⟩, h1, h2⟩
  rw [← h1]
  refine Reads.of_row h ?_ (by rw [h1]; exact hm)
  clear h h1 h2 hQ hm
  induction css with
  | nil => simp
  | cons c r ih => rw [List.flatten_cons, List.length_append, hK c (List.mem_cons_self ..), ih fun c hc => hK c (List.mem_cons_of_mem _ hc), List.length_cons, Nat.add_mul]; omega
def sF : ByteArray := ⟨#[102]⟩
def sV1 : ByteArray := ⟨#[86, 49]⟩
def sV2 : ByteArray := ⟨#[86, 50]⟩
def fourL (sp : Int) : List Mo := [⟨[1], 512, 0, 0, false, [], []⟩, ⟨[], 1024, 0, 0, false, [⟨sF, sV1, false, 8⟩], []⟩, ⟨if sp ≠ 0 then [3] else [3, 1], 2048, sp, 2, false, [⟨sF, sV2, true, 16⟩], [⟨sV2, [sV1]⟩, ⟨sV1, []⟩]⟩, ⟨[], 4096, sp, 2, false, [], []⟩]
def nilS : Value := .slice none 0 0
def i0 : Value := .int .i64 0
def s0 : Value := .string ByteArray.empty
def im0 (ev vv : Value) : List Value := [s0, .bool false, i0, i0, i0, s0, s0, i0, nilS, ev, nilS, nilS, nilS, nilS, nilS, nilS, i0, nilS, vv, nilS, nilS, nilS, nilS, nilS, nilS, nilS]
def mo0 (ev vv nv : Value) (base sp rt : Int) : List Value := [s0, .bool false, i0, i0, i0, s0, s0, i0, nilS, ev, nilS, nilS, nilS, nilS, nilS, nilS, i0, nilS, vv, nilS, nilS, nilS, nilS, nilS, nilS, nilS, .int .i64 base, .int .i64 sp, i0, nv, .bool false, .int .i64 rt]
def sl (b n : Nat) : Value := .slice (some ⟨b, 0, none⟩) n n
theorem mo0_ok {w : World} {ev vv nv : Value} {base sp rt : Int} {ns : List Int} {ex : List Ex} {vd : List Vd} (he : Exs w ev ex) (hv : Vds w vv vd) (hn : Ints w nv ns) : MoC w (mo0 ev vv nv base sp rt) ⟨ns, base, sp, rt, false, ex, vd⟩ := by
  refine ⟨rfl, ⟨ev, vv, rfl, he, rfl, hv⟩, rfl, rfl, ⟨nv, rfl, hn⟩, rfl, rfl, fun q hq => ?_⟩
  have h1 := ListR.one he
  have h2 := ListR.one hv
  have h3 := ListR.one hn
  simp only [mo0, List.mem_cons, List.not_mem_nil, or_false] at hq
  rcases hq with rfl | rfl | rfl | rfl | rfl | rfl | rfl | rfl | rfl | rfl | rfl | rfl | rfl | rfl | rfl | rfl | rfl | rfl | rfl | rfl | rfl | rfl | rfl | rfl | rfl | rfl | rfl | rfl | rfl | rfl | rfl | rfl <;> first | rfl | assumption
theorem Exs.nil (w : World) : Exs w nilS [] := ⟨[], ⟨⟨by simp, .inl ⟨⟨_, rfl⟩, rfl⟩⟩, fun c hc => by cases hc⟩, rfl, fun i h1 => absurd h1 (Nat.not_lt_zero i)⟩
theorem Vds.nil (w : World) : Vds w nilS [] := ⟨[], ⟨⟨by simp, .inl ⟨⟨_, rfl⟩, rfl⟩⟩, fun c hc => by cases hc⟩, rfl, fun i h1 => absurd h1 (Nat.not_lt_zero i)⟩
theorem Strs.nil (w : World) : Strs w nilS [] := ⟨[], ⟨⟨by simp, .inl ⟨⟨_, rfl⟩, rfl⟩⟩, fun c hc => by cases hc⟩, rfl, fun i h1 => absurd h1 (Nat.not_lt_zero i)⟩
def ex0 (v : ByteArray) (m : Bool) (a : Int) : List Value := [.string sF, .string v, .bool m, i0, .int .i64 a, i0]
theorem ex0_ok (v : ByteArray) (m : Bool) (a : Int) : ExC (ex0 v m a) ⟨sF, v, m, a⟩ := by
  refine ⟨rfl, rfl, rfl, rfl, rfl, fun q hq => ?_⟩
  simp only [ex0, List.mem_cons, List.not_mem_nil, or_false] at hq
  rcases hq with rfl | rfl | rfl | rfl | rfl | rfl <;> rfl
theorem four_mods {w : World} {sp : Int} {ns : List Int} {nv : Value} {t1 t2 t3 t4 t5 t6 : TypeId} {b7 b10 b11 b14 b20 b30 : Nat} (r7 : Row w b7 t1 (ex0 sV1 false 8)) (r10 : Row w b10 t2 (ex0 sV2 true 16)) (r11 : Row w b11 t3 [.string sV1]) (r14 : Row w b14 t4 [.string sV2, sl b11 1, .string sV1, nilS])
    (hn : Ints w nv ns) (hns : ns = if sp ≠ 0 then [3] else [3, 1]) (r20 : Row w b20 t5 [.int .i64 1]) (r30 : Row w b30 t6 (mo0 nilS nilS (sl b20 1) 512 0 0 ++ (mo0 (sl b7 1) nilS nilS 1024 0 0 ++ (mo0 (sl b10 1) (sl b14 2) nv 2048 sp 2 ++ (mo0 nilS nilS nilS 4096 sp 2 ++ []))))) :
    Mods w (sl b30 4) (fourL sp) := by
  subst hns
  have one : ∀ {b : Nat} {t : TypeId} {v : ByteArray} {m : Bool} {a : Int}, Row w b t (ex0 v m a) → Exs w (sl b 1) [⟨sF, v, m, a⟩] := fun {b t v m a} h =>
    ListR.of_rows (K := 6) (Q := ExC) (css := [ex0 v m a]) (bs := [⟨sF, v, m, a⟩]) (by simpa using h) (by simp [ex0]) (by show 1 ≤ maxLen; decide) ⟨ex0_ok v m a, trivial⟩
  have hs : Strs w (sl b11 1) [sV1] := ListR.of_rows (K := 1) (Q := fun cs s => cs = [.string s]) (css := [[.string sV1]]) (bs := [sV1]) r11 (by simp) (by decide) ⟨rfl, trivial⟩
  have hv : Vds w (sl b14 2) [⟨sV2, [sV1]⟩, ⟨sV1, []⟩] := ListR.of_rows (K := 2) (Q := VdC w) (css := [[.string sV2, sl b11 1], [.string sV1, nilS]]) (bs := [⟨sV2, [sV1]⟩, ⟨sV1, []⟩]) r14 (by simp) (by decide) ⟨⟨_, rfl, hs⟩, ⟨_, rfl, Strs.nil w⟩, trivial⟩
  have h1 : Ints w (sl b20 1) [1] := ListR.of_rows (K := 1) (Q := fun cs n => cs = [.int .i64 n]) (css := [[.int .i64 1]]) (bs := [(1 : Int)]) r20 (by simp) (by decide) ⟨rfl, trivial⟩
  exact ListR.of_rows (K := 32) (Q := MoC w) (css := [mo0 nilS nilS (sl b20 1) 512 0 0, mo0 (sl b7 1) nilS nilS 1024 0 0, mo0 (sl b10 1) (sl b14 2) nv 2048 sp 2, mo0 nilS nilS nilS 4096 sp 2]) (bs := fourL sp) r30 (by simp [mo0]) (by show 4 ≤ maxLen; decide)
    ⟨mo0_ok (Exs.nil w) (Vds.nil w) h1, mo0_ok (one r7) (Vds.nil w) (Ints.nil w), mo0_ok (one r10) hv hn, mo0_ok (Exs.nil w) (Vds.nil w) (Ints.nil w), trivial⟩

-- linchpin/linchpinlaw31.four: parameters ['int'] (free 0), results [('ResultVar.tmp', 2)], 31 slots
set_option maxRecDepth 100000 in
theorem four_any (sp : Int) (w : World) :
    Calls Try.prog 21 [.int .i64 sp].toArray w fun e w' => ∃ v', e = .returned v' ∧ Ext w w' ∧ Mods w' v' (fourL sp) := by
  refine calls_of Try.func21 rfl Try.ntmps21 rfl ?_
  refine EC.seq ?_
  -- region 0  law.go:12
  refine EC.region (fun i => [1].getD i 0) [0] rfl ?_
  refine ER.sil rfl rfl rfl rfl (Sil.assign rfl) ?_  -- 0.0: t2 := assign
  refine ER.nil (fun w1 h1 => ?_)
  refine AQ.then ?_
  refine EC.seq ?_
  -- region 1  law.go:13
  refine EC.region (fun i => [1, 2, 1, 2, 3].getD i 0) [0, 1, 2, 3, 4] rfl ?_
  refine ER.sil rfl rfl rfl rfl (Sil.build rfl ((show _ = some (ex0 sV1 false 8).toArray by kernel_rfl))) ?_  -- 1.0: t6 := build
  refine ER.st rfl rfl rfl rfl (fun w2 h2 => Stp.buildAll [_] Try.underlying39 inf62 rfl rfl rfl rfl rfl rfl (fun w3 h3 s3 r3 => ⟨h3, ?_⟩))  -- 1.1: t7 := buildSlice
  refine ER.sil rfl rfl rfl rfl (Sil.build rfl ((show _ = some (im0 (sl w2.heap.size 1) nilS).toArray by kernel_rfl))) ?_  -- 1.2: t8 := build
  refine ER.st rfl rfl rfl rfl (fun w4 h4 => Stp.alloc inf54 (fun w5 h5 s5 r5 => ⟨h5, ?_⟩))  -- 1.3: t3 := alloc
  refine ER.bar rfl rfl rfl rfl (fun w6 h6 => Stp.store (by kernel_rfl) rfl rfl (r5.ext h6) rfl rfl (fun w7 u7 r7 => ?_))  -- 1.4: tNone := store
  have e7 := ((h4.trans h5).trans h6).upd u7 h4.size
  refine ER.nil (fun w8 h8 => ?_)
  refine AQ.then ?_
  refine EC.seq ?_
  -- region 2  law.go:14
  refine EC.region (fun i => [1, 2, 2, 1, 1, 2, 1, 2, 3].getD i 0) [0, 1, 2, 3, 4, 5, 6, 7, 8] rfl ?_
  refine ER.sil rfl rfl rfl rfl (Sil.build rfl ((show _ = some (ex0 sV2 true 16).toArray by kernel_rfl))) ?_  -- 2.0: t9 := build
  refine ER.st rfl rfl rfl rfl (fun w9 h9 => Stp.buildAll [_] Try.underlying39 inf62 rfl rfl rfl rfl rfl rfl (fun w10 h10 s10 r10 => ⟨h10, ?_⟩))  -- 2.1: t10 := buildSlice
  refine ER.st rfl rfl rfl rfl (fun w11 h11 => Stp.buildAll [_] Try.underlying42 inf9 rfl rfl rfl rfl rfl rfl (fun w12 h12 s12 r12 => ⟨h12, ?_⟩))  -- 2.2: t11 := buildSlice
  refine ER.sil rfl rfl rfl rfl (Sil.build rfl rfl) ?_  -- 2.3: t12 := build
  refine ER.sil rfl rfl rfl rfl (Sil.build rfl rfl) ?_  -- 2.4: t13 := build
  refine ER.st rfl rfl rfl rfl (fun w13 h13 => Stp.buildAll [_, _] Try.underlying43 inf68 rfl rfl rfl rfl rfl rfl (fun w14 h14 s14 r14 => ⟨h14, ?_⟩))  -- 2.5: t14 := buildSlice
  refine ER.sil rfl rfl rfl rfl (Sil.build rfl ((show _ = some (im0 (sl w9.heap.size 1) (sl w13.heap.size 2)).toArray by kernel_rfl))) ?_  -- 2.6: t15 := build
  refine ER.st rfl rfl rfl rfl (fun w15 h15 => Stp.alloc inf54 (fun w16 h16 s16 r16 => ⟨h16, ?_⟩))  -- 2.7: t4 := alloc
  refine ER.bar rfl rfl rfl rfl (fun w17 h17 => Stp.store (by kernel_rfl) rfl rfl (r16.ext h17) rfl rfl (fun w18 u18 r18 => ?_))  -- 2.8: tNone := store
  have e18 := ((h15.trans h16).trans h17).upd u18 h15.size
  refine ER.nil (fun w19 h19 => ?_)
  refine AQ.then ?_
  refine EC.seq ?_
  -- region 3  law.go:15
  refine EC.region (fun i => [2, 1].getD i 0) [0, 1] rfl ?_
  refine ER.st rfl rfl rfl rfl (fun w20 h20 => Stp.buildAll [_, _] Try.underlying28 inf3 rfl rfl rfl rfl rfl rfl (fun w21 h21 s21 r21 => ⟨h21, ?_⟩))  -- 3.0: t16 := buildSlice
  refine ER.sil rfl rfl rfl rfl (Sil.assign rfl) ?_  -- 3.1: t5 := assign
  refine ER.nil (fun w22 h22 => ?_)
  refine AQ.then ?_
  refine EC.seq ?_
  refine EC.seq ?_
  -- region 4  law.go:16
  refine EC.region (fun i => [1, 1].getD i 0) [0, 1] rfl ?_
  refine ER.sil rfl rfl rfl rfl (Sil.move rfl) ?_  -- 4.0: t17 := move
  refine ER.sil rfl rfl rfl rfl (Sil.neq rfl rfl) ?_  -- 4.1: t18 := binOp
  refine ER.nil (fun w23 h23 => ?_)
  refine AQ.then ?_
  refine EC.cond rfl (fun hb0 => ?_) (fun hb0 => ?_)  -- cond 0: t18
  ·
    -- region 5  law.go:17
    refine EC.region (fun i => [2, 1].getD i 0) [0, 1] rfl ?_
    refine ER.st rfl rfl rfl rfl (fun w24 h24 => Stp.buildAll [_] Try.underlying28 inf3 rfl rfl rfl rfl rfl rfl (fun w25 h25 s25 r25 => ⟨h25, ?_⟩))  -- 5.0: t19 := buildSlice
    refine ER.sil rfl rfl rfl rfl (Sil.assign rfl) ?_  -- 5.1: t5 := assign
    refine ER.nil (fun w26 h26 => ?_)
    refine AQ.then ?_
    refine EC.seq ?_
    -- region 6  law.go:19
    refine EC.region (fun i => [2, 1, 0, 1, 0, 1, 1, 1, 1, 1, 2, 1].getD i 0) [0, 1, 2, 3, 4, 5, 6, 7, 8, 9, 10, 11] rfl ?_
    refine ER.st rfl rfl rfl rfl (fun w27 h27 => Stp.buildAll [_] Try.underlying28 inf3 rfl rfl rfl rfl rfl rfl (fun w28 h28 s28 r28 => ⟨h28, ?_⟩))  -- 6.0: t20 := buildSlice
    refine ER.sil rfl rfl rfl rfl (Sil.build rfl ((show _ = some (mo0 nilS nilS (sl w27.heap.size 1) 512 0 0).toArray by kernel_rfl))) ?_  -- 6.1: t21 := build
    refine ER.ex rfl rfl rfl rfl (Exa.loadAgg (vs := (im0 (sl w2.heap.size 1) nilS)) agg54 rfl (((r7.ext (((((((((((((((((h8.trans h9).trans h10).trans h11).trans h12).trans h13).trans h14).trans e18).trans h19).trans h20).trans h21).trans h22).trans h23).trans h24).trans h25).trans h26).trans h27).trans h28))).at)) ?_  -- 6.2: t22 := load
    refine ER.sil rfl rfl rfl rfl (Sil.build rfl ((show _ = some (mo0 (sl w2.heap.size 1) nilS nilS 1024 0 0).toArray by kernel_rfl))) ?_  -- 6.3: t23 := build
    refine ER.ex rfl rfl rfl rfl (Exa.loadAgg (vs := (im0 (sl w9.heap.size 1) (sl w13.heap.size 2))) agg54 rfl (((r18.ext (((((((((h19.trans h20).trans h21).trans h22).trans h23).trans h24).trans h25).trans h26).trans h27).trans h28))).at)) ?_  -- 6.4: t24 := load
    refine ER.sil rfl rfl rfl rfl (Sil.move rfl) ?_  -- 6.5: t25 := move
    refine ER.sil rfl rfl rfl rfl (Sil.move rfl) ?_  -- 6.6: t26 := move
    refine ER.sil rfl rfl rfl rfl (Sil.build rfl ((show _ = some (mo0 (sl w9.heap.size 1) (sl w13.heap.size 2) (sl w24.heap.size 1) 2048 sp 2).toArray by kernel_rfl))) ?_  -- 6.7: t27 := build
    refine ER.sil rfl rfl rfl rfl (Sil.move rfl) ?_  -- 6.8: t28 := move
    refine ER.sil rfl rfl rfl rfl (Sil.build rfl ((show _ = some (mo0 nilS nilS nilS 4096 sp 2).toArray by kernel_rfl))) ?_  -- 6.9: t29 := build
    refine ER.st rfl rfl rfl rfl (fun w29 h29 => Stp.buildAll [_, _, _, _] Try.underlying22 inf56 rfl rfl rfl rfl rfl rfl (fun w30 h30 s30 r30 => ⟨h30, ?_⟩))  -- 6.10: t30 := buildSlice
    refine ER.sil rfl rfl rfl rfl (Sil.assign rfl) ?_  -- 6.11: t2 := assign
    refine ER.nil (fun w31 h31 => ?_)
    refine AQ.then ?_
    refine EC.ret ?_
    refine AQ.ret1 Try.results21 rfl ?_
    exact ⟨_, rfl, ((((((((((((((((((((((((h1.trans h2).trans h3).trans e7).trans h8).trans h9).trans h10).trans h11).trans h12).trans h13).trans h14).trans e18).trans h19).trans h20).trans h21).trans h22).trans h23).trans h24).trans h25).trans h26).trans h27).trans h28).trans h29).trans h30).trans h31), four_mods (r3.ext (((((((((((((((((((((e7.trans h8).trans h9).trans h10).trans h11).trans h12).trans h13).trans h14).trans e18).trans h19).trans h20).trans h21).trans h22).trans h23).trans h24).trans h25).trans h26).trans h27).trans h28).trans h29).trans h30).trans h31)) (r10.ext (((((((((((((((((h11.trans h12).trans h13).trans h14).trans e18).trans h19).trans h20).trans h21).trans h22).trans h23).trans h24).trans h25).trans h26).trans h27).trans h28).trans h29).trans h30).trans h31)) (r12.ext (((((((((((((((h13.trans h14).trans e18).trans h19).trans h20).trans h21).trans h22).trans h23).trans h24).trans h25).trans h26).trans h27).trans h28).trans h29).trans h30).trans h31)) (r14.ext (((((((((((((e18.trans h19).trans h20).trans h21).trans h22).trans h23).trans h24).trans h25).trans h26).trans h27).trans h28).trans h29).trans h30).trans h31)) (ListR.of_rows (K := 1) (Q := fun cs n => cs = [.int .i64 n]) (css := [[.int .i64 3]]) (bs := [(3 : Int)]) (r25.ext (((((h26.trans h27).trans h28).trans h29).trans h30).trans h31)) (by simp) (by decide) ⟨rfl, trivial⟩) (by rw [if_pos (by simpa using hb0)]) (r28.ext ((h29.trans h30).trans h31)) (r30.ext h31)⟩
  ·
    refine EC.skip ?_
    refine AQ.then ?_
    refine EC.seq ?_
    -- region 6  law.go:19
    refine EC.region (fun i => [2, 1, 0, 1, 0, 1, 1, 1, 1, 1, 2, 1].getD i 0) [0, 1, 2, 3, 4, 5, 6, 7, 8, 9, 10, 11] rfl ?_
    refine ER.st rfl rfl rfl rfl (fun w32 h32 => Stp.buildAll [_] Try.underlying28 inf3 rfl rfl rfl rfl rfl rfl (fun w33 h33 s33 r33 => ⟨h33, ?_⟩))  -- 6.0: t20 := buildSlice
    refine ER.sil rfl rfl rfl rfl (Sil.build rfl ((show _ = some (mo0 nilS nilS (sl w32.heap.size 1) 512 0 0).toArray by kernel_rfl))) ?_  -- 6.1: t21 := build
    refine ER.ex rfl rfl rfl rfl (Exa.loadAgg (vs := (im0 (sl w2.heap.size 1) nilS)) agg54 rfl (((r7.ext ((((((((((((((h8.trans h9).trans h10).trans h11).trans h12).trans h13).trans h14).trans e18).trans h19).trans h20).trans h21).trans h22).trans h23).trans h32).trans h33))).at)) ?_  -- 6.2: t22 := load
    refine ER.sil rfl rfl rfl rfl (Sil.build rfl ((show _ = some (mo0 (sl w2.heap.size 1) nilS nilS 1024 0 0).toArray by kernel_rfl))) ?_  -- 6.3: t23 := build
    refine ER.ex rfl rfl rfl rfl (Exa.loadAgg (vs := (im0 (sl w9.heap.size 1) (sl w13.heap.size 2))) agg54 rfl (((r18.ext ((((((h19.trans h20).trans h21).trans h22).trans h23).trans h32).trans h33))).at)) ?_  -- 6.4: t24 := load
    refine ER.sil rfl rfl rfl rfl (Sil.move rfl) ?_  -- 6.5: t25 := move
    refine ER.sil rfl rfl rfl rfl (Sil.move rfl) ?_  -- 6.6: t26 := move
    refine ER.sil rfl rfl rfl rfl (Sil.build rfl ((show _ = some (mo0 (sl w9.heap.size 1) (sl w13.heap.size 2) (sl w20.heap.size 2) 2048 sp 2).toArray by kernel_rfl))) ?_  -- 6.7: t27 := build
    refine ER.sil rfl rfl rfl rfl (Sil.move rfl) ?_  -- 6.8: t28 := move
    refine ER.sil rfl rfl rfl rfl (Sil.build rfl ((show _ = some (mo0 nilS nilS nilS 4096 sp 2).toArray by kernel_rfl))) ?_  -- 6.9: t29 := build
    refine ER.st rfl rfl rfl rfl (fun w34 h34 => Stp.buildAll [_, _, _, _] Try.underlying22 inf56 rfl rfl rfl rfl rfl rfl (fun w35 h35 s35 r35 => ⟨h35, ?_⟩))  -- 6.10: t30 := buildSlice
    refine ER.sil rfl rfl rfl rfl (Sil.assign rfl) ?_  -- 6.11: t2 := assign
    refine ER.nil (fun w36 h36 => ?_)
    refine AQ.then ?_
    refine EC.ret ?_
    refine AQ.ret1 Try.results21 rfl ?_
    exact ⟨_, rfl, (((((((((((((((((((((h1.trans h2).trans h3).trans e7).trans h8).trans h9).trans h10).trans h11).trans h12).trans h13).trans h14).trans e18).trans h19).trans h20).trans h21).trans h22).trans h23).trans h32).trans h33).trans h34).trans h35).trans h36), four_mods (r3.ext ((((((((((((((((((e7.trans h8).trans h9).trans h10).trans h11).trans h12).trans h13).trans h14).trans e18).trans h19).trans h20).trans h21).trans h22).trans h23).trans h32).trans h33).trans h34).trans h35).trans h36)) (r10.ext ((((((((((((((h11.trans h12).trans h13).trans h14).trans e18).trans h19).trans h20).trans h21).trans h22).trans h23).trans h32).trans h33).trans h34).trans h35).trans h36)) (r12.ext ((((((((((((h13.trans h14).trans e18).trans h19).trans h20).trans h21).trans h22).trans h23).trans h32).trans h33).trans h34).trans h35).trans h36)) (r14.ext ((((((((((e18.trans h19).trans h20).trans h21).trans h22).trans h23).trans h32).trans h33).trans h34).trans h35).trans h36)) (ListR.of_rows (K := 1) (Q := fun cs n => cs = [.int .i64 n]) (css := [[.int .i64 3], [.int .i64 1]]) (bs := [(3 : Int), 1]) (r21.ext ((((((h22.trans h23).trans h32).trans h33).trans h34).trans h35).trans h36)) (by simp) (by decide) ⟨rfl, rfl, trivial⟩) (by rw [if_neg (by simpa using hb0)]) (r33.ext ((h34.trans h35).trans h36)) (r35.ext h36)⟩

end Go.Proofs.Ytgagjmapjdeknaa
