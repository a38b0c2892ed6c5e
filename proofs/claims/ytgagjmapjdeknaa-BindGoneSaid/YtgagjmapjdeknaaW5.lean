/- Bind: what a string serves, in the program. -/
import Derived.Test.YtgagjmapjdeknaaW4
namespace Go.Proofs.Ytgagjmapjdeknaa
open Go.RowKit Go.XK Go.BindLaw

theorem visit_any (l : List Vd) (v : Value) (root : ByteArray) (w00 : World) (bm bi b1 b2 b3 b4 : Nat) (midx : List (ByteArray × Value)) :
    ∀ (n : Nat) (m : List (ByteArray × Value)) (s : ByteArray) (w : World), countM (univ l root) (inM m) = n → s ∈ univ l root → VEnv l v w00 bm bi b1 b2 b3 b4 midx w → MRow w bm Value.string m → Tru m → Calls Try.prog 37 [.string s, ptr b1, ptr b2, ptr b3, ptr b4].toArray w fun e w' => ∃ m', e = .returned (.tuple #[]) ∧ Mod (fun b => b = bm) w w' ∧ MRow w' bm Value.string m' ∧ Grow l s m m' := by
  intro n
  induction n using Nat.strongRecOn with
  | _ n ih =>
    intro m s w hn hs hv hmr ht
    exact visit_step l v root w00 bm bi b1 b2 b3 b4 midx m s w (fun m2 s2 w2 h1 h2 h3 h4 h5 => ih _ (hn ▸ h1) m2 s2 w2 rfl h2 h3 h4 h5) hs hv hmr ht

-- linchpin/version.served: parameters ['[]api.VersionDef', 'string'] (free 0), results [('ResultVar.tmp', 4)], 16 slots
set_option maxRecDepth 100000 in
theorem served_any (l : List Vd) (v : Value) (s : ByteArray) (w : World) (hl : Vds w v l) :
    Calls Try.prog 31 [v, .string s].toArray w fun e w' => ∃ v', e = .returned v' ∧ Ext w w' ∧ ∃ b m, v' = .map (some b) ∧ MRow w' b Value.string m ∧ Tru m ∧ ∀ x, inM m x = servesB l s x := by
  have hm := hl.max
  obtain ⟨va, vc, rfl, _⟩ := hl.isS
  refine calls_of Try.func31 rfl Try.ntmps31 rfl ?_
  refine EC.seq ?_
  -- region 0  version.go:60
  refine EC.region (fun i => [2, 1].getD i 0) [0, 1] rfl ?_
  refine ER.st rfl rfl rfl rfl (fun w1 h1 => Stp.box rfl (fun w2 h2 s2 r2 => ⟨h2, ?_⟩))  -- 0.0: t2 := box
  refine ER.sil rfl rfl rfl rfl (Sil.assign rfl) ?_  -- 0.1: t4 := assign
  refine ER.nil (fun w3 h3 => ?_)
  refine AQ.then ?_
  refine EC.seq ?_
  -- region 1  version.go:61
  refine EC.region (fun i => [0, 2, 2, 3].getD i 0) [0, 1, 2, 3] rfl ?_
  refine ER.ex rfl rfl rfl rfl (Exa.load flat43 rfl ((r2.ext h3).cell rfl)) ?_  -- 1.0: t8 := load
  --  -- 1.1: t9 := call
  refine ER.st rfl rfl rfl rfl (fun w4 h4 => Stp.call fok36 rfl rfl (Calls.mono (index_any l _ w4 (hl.ext (((h1.trans h2).trans h3).trans h4))) ?_))
  rintro _ w5 ⟨bi, midx, rfl, h5, hbi, hmi, hidx⟩
  refine ⟨_, rfl, h5, ?_⟩
  refine ER.st rfl rfl rfl rfl (fun w6 h6 => Stp.alloc inf81 (fun w7 h7 s7 r7 => ⟨h7, ?_⟩))  -- 1.2: t5 := alloc
  refine ER.bar rfl rfl rfl rfl (fun w8 h8 => Stp.store (by kernel_rfl) rfl rfl (r7.ext h8) rfl rfl (fun w9 u9 r9 => ?_))  -- 1.3: tNone := store
  have e9 := ((h6.trans h7).trans h8).upd u9 h6.size
  refine ER.nil (fun w10 h10 => ?_)
  refine AQ.then ?_
  refine EC.seq ?_
  -- region 2  version.go:62
  refine EC.region (fun i => [2, 2, 3].getD i 0) [0, 1, 2] rfl ?_
  have n0 := ((((((h1.trans h2).trans h3).trans h4).trans h5).trans e9).trans h10).size
  have n2 := (r2.ext ((((h3.trans h4).trans h5).trans e9).trans h10)).lt
  have n5 := (r9.ext h10).lt
  have ni := (hmi.ext (e9.trans h10)).lt
  refine ER.st rfl rfl rfl rfl (fun w11 h11 => Stp.makeMap (Value.string) (fun w12 h12 s12 r12 => ⟨h12, ?_⟩))  -- 2.0: t10 := makeMap
  have n1 := h11.size
  have n6 := Nat.le_refl w12.heap.size
  refine ER.st rfl rfl rfl rfl (fun w13 h13 => Stp.alloc inf77 (fun w14 h14 s14 r14 => ⟨h14, ?_⟩))  -- 2.1: t6 := alloc
  refine ER.bar rfl rfl rfl rfl (fun w15 h15 => Stp.store (by kernel_rfl) rfl rfl (r14.ext h15) rfl rfl (fun w16 u16 r16 => ?_))  -- 2.2: tNone := store
  have e16 := ((h13.trans h14).trans h15).upd u16 h13.size
  refine ER.nil (fun w17 h17 => ?_)
  refine AQ.then ?_
  refine EC.seq ?_
  -- region 3  version.go:63
  refine EC.region (fun i => [2].getD i 0) [0] rfl ?_
  refine ER.st rfl rfl rfl rfl (fun w18 h18 => Stp.alloc inf83 (fun w19 h19 s19 r19 => ⟨h19, ?_⟩))  -- 3.0: t7 := alloc
  refine ER.nil (fun w20 h20 => ?_)
  refine AQ.then ?_
  refine EC.seq ?_
  -- region 4  version.go:64
  refine EC.region (fun i => [1, 3].getD i 0) [0, 1] rfl ?_
  refine ER.sil rfl rfl rfl rfl (Sil.makeFunc rfl rfl) ?_  -- 4.0: t11 := makeFunc
  refine ER.bar rfl rfl rfl rfl (fun w21 h21 => Stp.store (by kernel_rfl) rfl rfl (r19.ext (h20.trans h21)) rfl rfl (fun w22 u22 r22 => ?_))  -- 4.1: tNone := store
  have e22 := (((h18.trans h19).trans h20).trans h21).upd u22 h18.size
  refine ER.nil (fun w23 h23 => ?_)
  refine AQ.then ?_
  refine EC.seq ?_
  -- region 5  version.go:75
  refine EC.region (fun i => [0, 1, 3].getD i 0) [0, 1, 2] rfl ?_
  refine ER.ex rfl rfl rfl rfl (Exa.load flat83 rfl ((r22.ext h23).cell rfl)) ?_  -- 5.0: t12 := load
  refine ER.sil rfl rfl rfl rfl (Sil.move rfl) ?_  -- 5.1: t13 := move
  --  -- 5.2: t14 := call
  have nn6 := h13.size
  have nn7 := Nat.le_trans e16.size (Nat.le_trans h17.size h18.size)
  refine ER.bar rfl rfl rfl rfl (fun w24 h24 => Stp.callC fok37 rfl rfl (Calls.mono (visit_any l _ s w w11.heap.size bi w13.heap.size w6.heap.size w1.heap.size w18.heap.size midx _ [] s w24 rfl (List.mem_cons_self ..)
    ⟨((((((((((((h1.trans h2).trans h3).trans h4).trans h5).trans e9).trans h10).trans h11).trans h12).trans e16).trans h17).trans e22).trans h23).trans h24, by omega, hl, hidx, (r16.ext ((h17.trans e22).trans h23)).ext h24, (r9.ext ((((((h10.trans h11).trans h12).trans e16).trans h17).trans e22).trans h23)).ext h24, (hmi.ext (((((((e9.trans h10).trans h11).trans h12).trans e16).trans h17).trans e22).trans h23)).ext h24, (r2.ext ((((((((((h3.trans h4).trans h5).trans e9).trans h10).trans h11).trans h12).trans e16).trans h17).trans e22).trans h23)).ext h24, (r22.ext h23).ext h24, by omega, by omega, by omega, by omega, by omega⟩ ((r12.ext (((e16.trans h17).trans e22).trans h23)).ext h24) (fun x u hx => by cases hx)) ?_))
  rintro _ w25 ⟨m1, rfl, k1, r1, g1⟩
  refine ⟨_, rfl, ?_⟩
  have q6 := k1.row ((r16.ext ((h17.trans e22).trans h23)).ext h24) (show ¬ w13.heap.size = w11.heap.size by omega)
  have hx5 := (((((((((((((h1.trans h2).trans h3).trans h4).trans h5).trans e9).trans h10).trans h11).trans h12).trans e16).trans h17).trans e22).trans h23).trans h24).modify k1 (fun k e => by rw [e]; omega)
  refine ER.nil (fun w26 h26 => ?_)
  refine AQ.then ?_
  refine EC.seq ?_
  -- region 6  version.go:76
  refine EC.region (fun i => [0, 1].getD i 0) [0, 1] rfl ?_
  refine ER.ex rfl rfl rfl rfl (Exa.load flat77 rfl ((q6.ext h26).cell rfl)) ?_  -- 6.0: t15 := load
  refine ER.sil rfl rfl rfl rfl (Sil.assign rfl) ?_  -- 6.1: t4 := assign
  refine ER.nil (fun w27 h27 => ?_)
  refine AQ.then ?_
  refine EC.ret ?_
  refine AQ.ret1 Try.results31 rfl ?_
  exact ⟨_, rfl, ((hx5.trans h26).trans h27), _, m1, rfl, (r1.ext (h26.trans h27)), g1.tru, fun x => Grow.all g1 x⟩

-- linchpin/version.Serves: parameters ['[]api.VersionDef', 'string', 'string'] (free 0), results [('ResultVar.tmp', 6)], 17 slots
set_option maxRecDepth 100000 in
theorem serves_any (l : List Vd) (v : Value) (s t : ByteArray) (w : World) (hl : Vds w v l) :
    Calls Try.prog 27 [v, .string s, .string t].toArray w fun e w' => e = .returned (.bool (servesB l s t)) ∧ Ext w w' := by
  refine calls_of Try.func27 rfl Try.ntmps27 rfl ?_
  refine EC.seq ?_
  -- region 0  version.go:80
  refine EC.region (fun i => [1].getD i 0) [0] rfl ?_
  refine ER.sil rfl rfl rfl rfl (Sil.assign rfl) ?_  -- 0.0: t6 := assign
  refine ER.nil (fun w1 h1 => ?_)
  refine AQ.then ?_
  refine EC.seq ?_
  cases hsp1 : decide (s = t)
  ·
    -- region 1  version.go:81
    refine EC.region (fun i => [1, 1, 1, 1, 1, 1, 2, 1, 0, 1, 1].getD i 0) [0, 1, 2, 3, 4, 5, 6, 7, 8, 9, 10] rfl ?_
    refine ER.sil rfl rfl rfl rfl (Sil.move rfl) ?_  -- 1.0: t7 := move
    refine ER.sil rfl rfl rfl rfl (Sil.move rfl) ?_  -- 1.1: t8 := move
    refine ER.sil rfl rfl rfl rfl (Sil.seql rfl rfl) ?_  -- 1.2: t9 := binOp
    refine ER.sil rfl rfl rfl rfl (Sil.move rfl) ?_  -- 1.3: t10 := move
    refine ER.silD rfl rfl rfl rfl (by simp [hsp1]) rfl rfl (Sil.move rfl) ?_  -- 1.4: t11 := move
    refine ER.silD rfl rfl rfl rfl (by simp [hsp1]) rfl rfl (Sil.move rfl) ?_  -- 1.5: t12 := move
    refine ER.stG rfl rfl rfl rfl (by simp [hsp1]) rfl rfl (fun w2 h2 => Stp.call fok31 rfl rfl (Calls.mono ((served_any l v s w2 (hl.ext (h1.trans h2)))) ?_))  -- 1.6: t13 := call
    rintro _ w3 ⟨v3, rfl, h3, ⟨bb3, mm, hv3, hmr3, htr, hin⟩⟩
    refine ⟨v3, rfl, h3, ?_⟩
    subst hv3
    refine ER.silD rfl rfl rfl rfl (by simp [hsp1]) rfl rfl (Sil.move rfl) ?_  -- 1.7: t14 := move
    refine ER.exD rfl rfl rfl rfl (by simp [hsp1]) rfl rfl (Exa.lookup Try.underlying77 (KeyOK.str Try.underlying9) inf4 rfl rfl (hmr3)) ?_  -- 1.8: t15 := lookup
    rw [htr.get t, hin t]
    refine ER.sil rfl rfl rfl rfl (Sil.pick rfl rfl rfl) ?_  -- 1.9: t16 := pick
    refine ER.sil rfl rfl rfl rfl (Sil.assign rfl) ?_  -- 1.10: t6 := assign
    refine ER.nil (fun w4 h4 => ?_)
    refine AQ.then ?_
    refine EC.ret ?_
    refine AQ.ret1 Try.results27 rfl ?_
    exact ⟨by rw [hsp1]; rfl, (((h1.trans h2).trans h3).trans h4)⟩
  ·
    -- region 1  version.go:81
    refine EC.region (fun i => [1, 1, 1, 1, 1, 1, 2, 1, 0, 1, 1].getD i 0) [0, 1, 2, 3, 4, 5, 6, 7, 8, 9, 10] rfl ?_
    refine ER.sil rfl rfl rfl rfl (Sil.move rfl) ?_  -- 1.0: t7 := move
    refine ER.sil rfl rfl rfl rfl (Sil.move rfl) ?_  -- 1.1: t8 := move
    refine ER.sil rfl rfl rfl rfl (Sil.seql rfl rfl) ?_  -- 1.2: t9 := binOp
    refine ER.sil rfl rfl rfl rfl (Sil.move rfl) ?_  -- 1.3: t10 := move
    refine ER.skipG rfl rfl rfl rfl (by simp [hsp1]) rfl ?_  -- 1.4
    refine ER.skipG rfl rfl rfl rfl (by simp [hsp1]) rfl ?_  -- 1.5
    refine ER.skipG rfl rfl rfl rfl (by simp [hsp1]) rfl ?_  -- 1.6
    refine ER.skipG rfl rfl rfl rfl (by simp [hsp1]) rfl ?_  -- 1.7
    refine ER.skipG rfl rfl rfl rfl (by simp [hsp1]) rfl ?_  -- 1.8
    refine ER.sil rfl rfl rfl rfl (Sil.pick rfl rfl rfl) ?_  -- 1.9: t16 := pick
    refine ER.sil rfl rfl rfl rfl (Sil.assign rfl) ?_  -- 1.10: t6 := assign
    refine ER.nil (fun w5 h5 => ?_)
    refine AQ.then ?_
    refine EC.ret ?_
    refine AQ.ret1 Try.results27 rfl ?_
    exact ⟨by rw [hsp1, serves_iff.2 (of_decide_eq_true hsp1 ▸ .refl)]; rfl, (h1.trans h5)⟩

end Go.Proofs.Ytgagjmapjdeknaa
