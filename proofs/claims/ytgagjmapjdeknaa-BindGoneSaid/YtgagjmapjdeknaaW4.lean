/- Bind: the visit. -/
import Derived.Test.YtgagjmapjdeknaaVisit
namespace Go.Proofs.Ytgagjmapjdeknaa
open Go.RowKit Go.XK Go.BindLaw

structure VisS where
  k : Nat
  m : List (ByteArray × Value)

-- linchpin/version.served$1: parameters ['string'] (free 4), results [], 36 slots
set_option maxRecDepth 100000 in
theorem visit_step (l : List Vd) (v : Value) (root : ByteArray) (w00 : World) (bm bi b1 b2 b3 b4 : Nat) (midx : List (ByteArray × Value))
    (m : List (ByteArray × Value)) (s : ByteArray) (w : World) (ih : ∀ (m2 : List (ByteArray × Value)) (s : ByteArray) (w : World), countM (univ l root) (inM m2) < countM (univ l root) (inM m) → s ∈ univ l root → VEnv l v w00 bm bi b1 b2 b3 b4 midx w → MRow w bm Value.string m2 → Tru m2 → Calls Try.prog 37 [.string s, ptr b1, ptr b2, ptr b3, ptr b4].toArray w fun e w' => ∃ m', e = .returned (.tuple #[]) ∧ Mod (fun b => b = bm) w w' ∧ MRow w' bm Value.string m' ∧ Grow l s m2 m')
    (hs : s ∈ univ l root) (hv : VEnv l v w00 bm bi b1 b2 b3 b4 midx w) (hmr : MRow w bm Value.string m) (ht : Tru m) :
    Calls Try.prog 37 [.string s, ptr b1, ptr b2, ptr b3, ptr b4].toArray w fun e w' => ∃ m', e = .returned (.tuple #[]) ∧ Mod (fun b => b = bm) w w' ∧ MRow w' bm Value.string m' ∧ Grow l s m m' := by
  refine calls_of Try.func37 rfl Try.ntmps37 rfl ?_
  refine EC.seq ?_
  refine EC.seq ?_
  -- region 0  version.go:65
  refine EC.region (fun i => [0, 1, 0].getD i 0) [0, 1, 2] rfl ?_
  refine ER.ex rfl rfl rfl rfl (Exa.load flat77 rfl ((hv.r1.ext (Ext.refl _)).cell rfl)) ?_  -- 0.0: t10 := load
  refine ER.sil rfl rfl rfl rfl (Sil.move rfl) ?_  -- 0.1: t11 := move
  refine ER.ex rfl rfl rfl rfl (Exa.lookup Try.underlying77 (KeyOK.str Try.underlying9) inf4 rfl rfl (hmr.ext (Ext.refl _))) ?_  -- 0.2: t12 := lookup
  rw [ht.get s]
  refine ER.nil (fun w1 h1 => ?_)
  refine AQ.then ?_
  refine EC.cond rfl (fun hb0 => ?_) (fun hb0 => ?_)  -- cond 0: t12
  ·
    refine EC.ret ?_
    refine AQ.thenRet ?_
    refine AQ.ret0' Try.results37 ?_
    exact ⟨m, rfl, (h1).mod _, hmr.ext h1, ht, fun _ h => h, hb0, fun x h1 h2 => by rw [h1] at h2; cases h2⟩
  ·
    refine EC.skip ?_
    refine AQ.then ?_
    refine EC.seq ?_
    -- region 1  version.go:68
    refine EC.region (fun i => [0, 1, 3].getD i 0) [0, 1, 2] rfl ?_
    refine ER.ex rfl rfl rfl rfl (Exa.load flat77 rfl ((hv.r1.ext h1).cell rfl)) ?_  -- 1.0: t13 := load
    refine ER.sil rfl rfl rfl rfl (Sil.move rfl) ?_  -- 1.1: t14 := move
    --  -- 1.2: tNone := mapUpdate
    refine ER.bar rfl rfl rfl rfl (fun w2 h2 => Stp.mapUpdate Try.underlying77 (KeyOK.str Try.underlying9) rfl rfl rfl (hmr.ext (h1.trans h2)) (fun w3 u3 m3 => ?_))
    have hM := ((h1.trans h2).mod (fun b => b = bm)).trans (u3.mod (S := fun b => b = bm) rfl)
    have hv2 := hv.mod hM
    refine ER.nil (fun w4 h4 => ?_)
    refine AQ.then ?_
    refine EC.seq ?_
    -- region 2  version.go:69
    refine EC.region (fun i => [0, 1, 0, 1, 1, 1, 1, 1].getD i 0) [0, 1, 2, 3, 4, 5, 6, 7] rfl ?_
    refine ER.ex rfl rfl rfl rfl (Exa.load flat81 rfl ((hv2.r2.ext h4).cell rfl)) ?_  -- 2.0: t16 := load
    refine ER.sil rfl rfl rfl rfl (Sil.move rfl) ?_  -- 2.1: t17 := move
    refine ER.ex rfl rfl rfl rfl (Exa.lookupOk Try.underlying81 (KeyOK.str Try.underlying9) inf3 rfl rfl (hv2.mi.ext h4)) ?_  -- 2.2: t18 := lookup
    rw [hv2.idx s]
    refine ER.sil rfl rfl rfl rfl (Sil.move rfl) ?_  -- 2.3: t15 := move
    refine ER.sil rfl rfl rfl rfl (Sil.extract rfl rfl) ?_  -- 2.4: t19 := extract
    refine ER.sil rfl rfl rfl rfl (Sil.extract rfl rfl) ?_  -- 2.5: t20 := extract
    refine ER.sil rfl rfl rfl rfl (Sil.assign rfl) ?_  -- 2.6: t6 := assign
    refine ER.sil rfl rfl rfl rfl (Sil.assign rfl) ?_  -- 2.7: t7 := assign
    refine ER.nil (fun w5 h5 => ?_)
    refine AQ.then ?_
    refine EC.seq ?_
    -- region 3  version.go:69
    refine EC.region (fun i => [1].getD i 0) [0] rfl ?_
    refine ER.sil rfl rfl rfl rfl (Sil.move rfl) ?_  -- 3.0: t21 := move
    refine ER.nil (fun w6 h6 => ?_)
    refine AQ.then ?_
    refine EC.cond rfl (fun hb1 => ?_) (fun hb1 => ?_)  -- cond 1: t21
    ·
      obtain ⟨i, hi⟩ : ∃ i, findV l s = some i := by
        cases hf : findV l s with
        | some i => exact ⟨i, rfl⟩
        | none => rw [hf] at hb1; cases hb1
      rw [hi]
      have hil := findV_lt hi
      have hp : par l s = l[i].parents := by rw [par, hi]; exact parAt_lt hil
      obtain ⟨pv, hat, hpv⟩ := Vds.elem hv.vds hil
      have hpm := hpv.max
      refine EC.seq ?_
      -- region 4  version.go:70
      refine EC.region (fun i => [0, 1, 1, 1, 0, 1, 1].getD i 0) [0, 1, 2, 3, 4, 5, 6] rfl ?_
      refine ER.ex rfl rfl rfl rfl (Exa.load flat43 rfl ((hv2.r3.ext ((h4.trans h5).trans h6)).cell rfl)) ?_  -- 4.0: t22 := load
      refine ER.sil rfl rfl rfl rfl (Sil.move rfl) ?_  -- 4.1: t23 := move
      refine ER.sil rfl rfl rfl rfl (Sil.indexR Try.underlying43 inf68 rfl rfl (Vds.isE hv.vds (by omega)) (by omega) (by omega)) ?_  -- 4.2: t24 := indexAddr
      refine ER.sil rfl rfl rfl rfl (Sil.fieldAddr Try.underlying68 rfl inf42 rfl) ?_  -- 4.3: t25 := fieldAddr
      refine ER.ex rfl rfl rfl rfl (Exa.load flat42 rfl ((hat.ext (hv2.ext.trans ((h4.trans h5).trans h6))) 1 _ rfl)) ?_  -- 4.4: t26 := load
      refine ER.sil rfl rfl rfl rfl (Sil.lenR Try.underlying42 rfl (Strs.isS hpv)) ?_  -- 4.5: t27 := call
      refine ER.sil rfl rfl rfl rfl (Sil.move rfl) ?_  -- 4.6: t28 := move
      refine ER.nil (fun w7 h7 => ?_)
      refine AQ.then ?_
      refine EC.block ?_
      refine EC.loop (σ := VisS) (fun q => [(4, ptr b4), (26, pv), (27, .int .i64 (l[i].parents.length : Int)), (28, .int .i64 (q.k : Int))]) (fun q wr => Mod (fun b => b = bm) w wr ∧ MRow wr bm Value.string q.m ∧ q.k ≤ l[i].parents.length ∧ GrowP l s m q.m q.k) (fun q => l[i].parents.length - q.k) ⟨0, mput m s (.bool true)⟩ [4, 26, 27, 28] rfl ?_ (fun q wr hF => ?_)
      · exact ⟨hM.trans ((((h4.trans h5).trans h6).trans h7).mod _), (m3.ext (((h4.trans h5).trans h6).trans h7)), Nat.zero_le _, GrowP.start ht⟩
      obtain ⟨hMr, mp, hk, hG⟩ := hF
      have hE := Ext.refl wr
      have hvr := hv.mod hMr
      refine EC.seq ?_
      -- region 5  version.go:70
      refine EC.region (fun i => [1].getD i 0) [0] rfl ?_
      refine ER.sil rfl rfl rfl rfl (Sil.lss rfl rfl) ?_  -- 5.0: t29 := binOp
      refine ER.nil (fun w8 h8 => ?_)
      refine AQ.then ?_
      refine EC.seq ?_
      refine EC.cond rfl (fun hb2 => ?_) (fun hb2 => ?_)  -- cond 2: t29
      ·
        have hlt : q.k < l[i].parents.length := by have := of_decide_eq_true hb2; omega
        refine EC.skip ?_
        refine AQ.then ?_
        refine EC.seq ?_
        refine EC.block ?_
        refine EC.seq ?_
        -- region 6  version.go:70
        refine EC.region (fun i => [1, 0, 1].getD i 0) [0, 1, 2] rfl ?_
        refine ER.sil rfl rfl rfl rfl (Sil.indexR Try.underlying42 inf9 rfl rfl (Strs.isE hpv (by omega)) (by omega) (by omega)) ?_  -- 6.0: t30 := indexAddr
        refine ER.ex rfl rfl rfl rfl (Exa.load flat9 rfl (Strs.cell (hpv.ext (hvr.ext.trans (hE.trans h8))) hlt)) ?_  -- 6.1: t31 := load
        refine ER.sil rfl rfl rfl rfl (Sil.assign rfl) ?_  -- 6.2: t9 := assign
        refine ER.nil (fun w9 h9 => ?_)
        refine AQ.then ?_
        -- region 7  version.go:71
        refine EC.region (fun i => [0, 1, 3].getD i 0) [0, 1, 2] rfl ?_
        refine ER.ex rfl rfl rfl rfl (Exa.load flat83 rfl ((hvr.r4.ext ((hE.trans h8).trans h9)).cell rfl)) ?_  -- 7.0: t32 := load
        refine ER.sil rfl rfl rfl rfl (Sil.move rfl) ?_  -- 7.1: t33 := move
        --  -- 7.2: t34 := call
        refine ER.bar rfl rfl rfl rfl (fun w10 h10 => Stp.callC fok37 rfl rfl (Calls.mono (ih q.m l[i].parents[q.k] w10 (countM_lt hG.mono s hs (by simpa using hb0) hG.has) (par_univ (by rw [hp]; exact List.getElem_mem hlt)) (hvr.mod ((((hE.trans h8).trans h9).trans h10).mod _)) (mp.ext (((hE.trans h8).trans h9).trans h10)) hG.tru) ?_))
        rintro _ w11 ⟨m11, rfl, k11, r11, hg2⟩
        refine ⟨_, rfl, ?_⟩
        have hM2 := (hMr.trans ((((hE.trans h8).trans h9).trans h10).mod (fun b => b = bm))).trans k11
        refine ER.nil (fun w12 h12 => ?_)
        refine AQ.blockNormal ?_
        refine AQ.then ?_
        -- region 8  version.go:70
        refine EC.region (fun i => [1, 1].getD i 0) [0, 1] rfl ?_
        refine ER.sil rfl rfl rfl rfl (Sil.add rfl rfl) ?_  -- 8.0: t35 := binOp
        refine ER.sil rfl rfl rfl rfl (Sil.move rfl) ?_  -- 8.1: t28 := move
        refine ER.nil (fun w13 h13 => ?_)
        refine AQ.round ⟨q.k + 1, _⟩ [4, 26, 27, 28] (by rw [← wrap_succ hlt hpm]; rfl) ⟨hM2.trans ((h12.trans h13).mod _), (r11.ext (h12.trans h13)), hlt, hG.step (by rw [hp]; exact hlt) (by simp only [hp]; exact hg2)⟩ (by simp only; omega)
      ·
        refine EC.exit ?_
        refine AQ.thenExit ?_
        refine AQ.thenExit ?_
        refine AQ.blockHit ?_
        refine AQ.ret0 Try.results37 ?_
        have hge : q.k = l[i].parents.length := by have := of_decide_eq_false hb2; omega
        exact ⟨q.m, rfl, hMr.trans ((hE.trans h8).mod _), (mp.ext h8), hG.done (by rw [hp]; omega)⟩
    ·
      have hp : par l s = [] := by
        cases hf : findV l s with
        | none => rw [par, hf]
        | some i => rw [hf] at hb1; cases hb1
      refine EC.skip ?_
      refine AQ.ret0 Try.results37 ?_
      exact ⟨_, rfl, hM.trans (((h4.trans h5).trans h6).mod _), (m3.ext ((h4.trans h5).trans h6)), (GrowP.start ht).done (by rw [hp]; exact Nat.zero_le _)⟩

end Go.Proofs.Ytgagjmapjdeknaa
