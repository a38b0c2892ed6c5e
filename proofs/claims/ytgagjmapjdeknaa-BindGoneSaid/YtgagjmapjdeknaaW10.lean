/- Bind: the program's Scope. -/
import Derived.Test.YtgagjmapjdeknaaW9
namespace Go.Proofs.Ytgagjmapjdeknaa
open Go.RowKit Go.XK Go.BindLaw

-- linchpin/bind.Scope: parameters ['[]api.Module', 'int'] (free 0), results [('ResultVar.tmp', 4)], 16 slots
set_option maxRecDepth 100000 in
theorem Scope_any (ms : List Mo) (v : Value) (m : Int) (w : World) (hms : Mods w v ms) (hm8 : ms.length ≤ 1000) :
    Calls Try.prog 13 [v, .int .i64 m].toArray w fun e w' => ∃ v', e = .returned v' ∧ Ext w w' ∧ Ints w' v' (scopeL ms m) := by
  have hlen := scopeL_len ms m
  refine calls_ofM Try.func13 rfl Try.ntmps13 rfl ?_
  refine EC.seq ?_
  -- region 0  bind.go:82
  refine EC.region (fun i => [1].getD i 0) [0] rfl ?_
  refine ER.sil rfl rfl rfl rfl (Sil.assign rfl) ?_  -- 0.0: t4 := assign
  refine ER.nil (fun w1 h1 => ?_)
  refine AQ.then ?_
  refine EC.seq ?_
  -- region 1  bind.go:83
  refine EC.region (fun i => [2].getD i 0) [0] rfl ?_
  have n0 := h1.size
  refine ER.st rfl rfl rfl rfl (fun w2 h2 => Stp.alloc inf28 (fun w3 h3 s3 r3 => ⟨h3, ?_⟩))  -- 1.0: t5 := alloc
  have n1 := h2.size
  have hB5 := Nat.le_trans n0 n1
  refine ER.nil (fun w4 h4 => ?_)
  refine AQ.then ?_
  refine EC.seq ?_
  refine EC.seq ?_
  -- region 2  bind.go:84
  refine EC.region (fun i => [1, 1, 2].getD i 0) [0, 1, 2] rfl ?_
  refine ER.sil rfl rfl rfl rfl (Sil.move rfl) ?_  -- 2.0: t7 := move
  refine ER.sil rfl rfl rfl rfl (Sil.move rfl) ?_  -- 2.1: t8 := move
  have hes := (r3.ext h4).lt
  refine ER.st rfl rfl rfl rfl (fun w5 h5 => Stp.call fok22 rfl rfl (Calls.mono ((scope_any m _ w5 hms.isS3)) ?_))  -- 2.2: t9 := call
  rintro _ w6 ⟨v6, rfl, h6, ⟨c1, c2, hv6, hc16, hc26, hl1, hl2⟩⟩
  refine ⟨v6, rfl, h6, ?_⟩
  subst hv6
  have hes2 := h5.size
  refine ER.nil (fun w7 h7 => ?_)
  refine AQ.then ?_
  refine EC.block ?_
  have hw1 := ((((((h1.trans h2).trans h3).trans h4).trans h5).trans h6).trans h7)
  have k50 := (r3.ext (((h4.trans h5).trans h6).trans h7))
  have hc1 := (hc16.ext h7)
  have hc2 := (hc26.ext h7)
  have hl5 := k50.lt
  refine EC.range (xs := (((scopeL ms m).map fun y => [Value.int .i64 y]))) (mem := (fun b => b < w.heap.size ∨ b = c1 ∨ b = c2)) rfl fok28 rfl (fun x hx => by obtain ⟨y, _, rfl⟩ := List.mem_map.1 hx; rfl)
    (fun j S1 W => ∃ ov, S1 = (fun b => b = w2.heap.size ∨ ov.ownBlock = some b) ∧ Ext w W ∧ Row W w2.heap.size 28 [ov] ∧ OwnQ W (w2.heap.size + 1) 3 1 ov ((scopeL ms m).take j).length (((scopeL ms m).take j).map (Value.int .i64)))
    (fun _ _ _ => False)
    (fun j S1 W W' h m => by
        obtain ⟨ov, rfl, hx, h5, ho⟩ := h
        exact ⟨ov, rfl, hx.modify m (fun k hk => Nat.le_trans hw1.size hk.1), m.row h5 (fun hb => hb.2 (.inl rfl)), ho.mod m (fun k hk hb => hb.2 (.inr hk))⟩) (fun _ _ _ _ h _ => h) (fun j S1 W h b hb => by
        obtain ⟨ov, rfl, hx, h5, ho⟩ := h
        rcases hb with rfl | hb
        · exact h5.lt
        · exact (ho.lt b hb).2)
    (fun W1 hW => scope_seq ms _ m w c1 c2 W1 (hw1.trans hW) hms (hc1.ext hW) (hc2.ext hW) hm8) (fun b => b = w2.heap.size ∨ Value.ownBlock (.slice none 0 0) = some b) (fun b hb => by
        rcases hb with h | rfl | rfl
        · exact ⟨fun hs => hs.elim (fun e => by omega) (fun e => by cases e), Nat.lt_of_lt_of_le h hw1.size⟩
        · exact ⟨fun hs => hs.elim (fun e => by omega) (fun e => by cases e), hc1.lt⟩
        · exact ⟨fun hs => hs.elim (fun e => by omega) (fun e => by cases e), hc2.lt⟩) (⟨_, rfl, hw1, k50, OwnQ.of_own (World.ownsRow_nil _ _ _ _)⟩) (fun j => [(5, ptr w2.heap.size), (6, .int .i64 ((scopeL ms m).getD j 0))]) ?_ ?_ ?_ ?_
  · intro lr kr wr hkr
    have hE := Ext.refl wr
    rw [map_get]
    -- region 3  bind.go:84
    refine EC.region (fun i => [1].getD i 0) [0] rfl ?_
    refine ER.sil rfl rfl rfl rfl (Sil.assign rfl) ?_  -- 3.0: t6 := assign
    refine ER.nil (fun w8 h8 => ?_)
    exact AQ.assigned [5, 6] rfl (hE.trans h8)
  · intro lr kr Sr wr hkr hI hM
    have hE := Ext.refl wr
    obtain ⟨ov, rfl, hx, k5, ho⟩ := hI
    have hkr2 : kr < (scopeL ms m).length := by simpa using hkr
    have hcg : (scopeL ms m).getD kr 0 = (scopeL ms m)[kr] := by simp [hkr2]
    refine EC.block ?_
    -- region 4  bind.go:85
    refine EC.region (fun i => [0, 1, 2, 3, 3].getD i 0) [0, 1, 2, 3, 4] rfl ?_
    refine ER.ex rfl rfl rfl rfl (Exa.load flat28 rfl (k5.cell rfl)) ?_  -- 4.0: t11 := load
    refine ER.sil rfl rfl rfl rfl (Sil.move rfl) ?_  -- 4.1: t12 := move
    refine ER.st rfl rfl rfl rfl (fun w9 h9 => Stp.buildAll [_] Try.underlying28 inf3 rfl rfl rfl rfl rfl rfl (fun w10 h10 s10 r10 => ⟨h10, ?_⟩))  -- 4.2: t13 := buildSlice
    --  -- 4.3: t14 := call
    refine ER.bar rfl rfl rfl rfl (fun w11 h11 => ?_)
    have hoa := ho.ext (((hE.trans h9).trans h10).trans h11)
    have hsa := (((hE.trans h9).trans h10).trans h11).size
    have hxa := hx.trans (((hE.trans h9).trans h10).trans h11)
    refine Stp.appendQ Try.underlying28 inf3 rfl rfl rfl hoa (Nat.le_trans (Nat.succ_le_of_lt k5.lt) hsa) (Reads.of_row (r10.ext h11) rfl (by decide)) (ints_one [_]) (by simp only [List.length_map, List.length_take]; omega) (by unfold maxLen; simp only [List.length_map, List.length_take]; omega) (fun vq w12 ob g12 nb => ?_)
    obtain ⟨qa, qc, rfl, _⟩ := ob.reads.isS
    have hMb := ((((hE.trans h9).trans h10).trans h11).mod (fun b => b = w2.heap.size ∨ ov.ownBlock = some b)).trans (Mod.of_grown g12 (fun k hk => .inr hk))
    have hob := fun b (hb : b < wr.heap.size) (hs : b = w2.heap.size ∨ Value.ownBlock (.slice qa _ qc) = some b) => hs.imp (fun h => h) (fun hs => (nb b hs).elim (fun h => h) (fun hge => absurd hb (by omega)))
    have hxb := hxa.grown g12 (fun k hk => Nat.le_trans hB5 (Nat.le_of_succ_le (hoa.lt k hk).1))
    have k5b := (k5.ext (((hE.trans h9).trans h10).trans h11)).grown g12 (fun e => by have := (hoa.lt _ e.symm).1; omega)
    --  -- 4.4: tNone := store
    refine ER.bar rfl rfl rfl rfl (fun w13 h13 => Stp.store (by kernel_rfl) rfl rfl (k5b.ext ((Ext.refl _).trans h13)) rfl rfl (fun w14 u14 r5 => ?_))
    have hMc := (hMb.trans (((Ext.refl _).trans h13).mod _)).trans (u14.mod (S := fun b => b = w2.heap.size ∨ ov.ownBlock = some b) (.inl rfl))
    have hxc := (hxb.trans ((Ext.refl _).trans h13)).upd u14 hB5
    have hoc := (ob.ext ((Ext.refl _).trans h13)).upd u14 (fun k hk => by have := (ob.lt k hk).1; omega)
    refine ER.nil (fun w15 h15 => ?_)
    refine AQ.blockNormal ?_
    refine AQ.rqN (fun b => b = w2.heap.size ∨ _) (hMc.trans (h15.mod _)) hob ⟨_, rfl, hxc.trans h15, r5.ext h15, ?_⟩
    rw [List.take_succ_eq_append_getElem hkr2, ← hcg, List.length_append, List.map_append]
    exact hoc.ext h15
  · intro D Sr wr hD hM hold hnD hDr hI
    have hE := Ext.refl wr
    obtain ⟨ov, rfl, hx, k5, ho⟩ := hI
    rw [List.length_map, List.take_length] at ho
    refine AQ.blockNormal ?_
    refine AQ.then ?_
    refine EC.seq ?_
    -- region 5  bind.go:87
    refine EC.region (fun i => [0, 1].getD i 0) [0, 1] rfl ?_
    refine ER.ex rfl rfl rfl rfl (Exa.load flat28 rfl ((k5.ext hE).cell rfl)) ?_  -- 5.0: t15 := load
    refine ER.sil rfl rfl rfl rfl (Sil.assign rfl) ?_  -- 5.1: t4 := assign
    refine ER.nil (fun w16 h16 => ?_)
    refine AQ.then ?_
    refine EC.ret ?_
    obtain ⟨va, vc, rfl, _⟩ := ho.reads.isS
    exact AQ.outM (.inr rfl) [D] (res1 Try.results13 rfl) (by simp) (by simpa using Ext.obj (hE.trans h16) hDr) (fun w' hm => ⟨_, rfl, (hx.trans (hE.trans h16)).modify hm (fun k hk => by rw [List.mem_singleton] at hk; subst hk; exact Nat.le_trans hw1.size hD), Ints.of_q ((ho.ext (hE.trans h16)).mod hm (fun k hk hb => by rw [List.mem_singleton] at hb; subst hb; exact hnD (.inr hk)))⟩)
  · intro D c Sr wr hD hM hold hnD hDr hX
    have hE := Ext.refl wr
    exact hX.elim

end Go.Proofs.Ytgagjmapjdeknaa
