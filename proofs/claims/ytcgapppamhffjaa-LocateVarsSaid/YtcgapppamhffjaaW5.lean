/- Locate: what an iterator hands over, collected. -/
import Derived.Test.YtcgapppamhffjaaW4
import Derived.Test.YtcgapppamhffjaaQueue
namespace Go.Proofs.Ytcgapppamhffjaa
open Go.RowKit Go.XK Go.LocateLaw

theorem ownq_low {w : World} {base base' : Nat} {e : TypeId} {size n : Nat} {v : Value} {xs : List Value} (h : OwnQ w base e size v n xs) (hb : base' ≤ base) : OwnQ w base' e size v n xs := by
  refine ⟨h.1, ?_⟩
  rcases h.2 with h2 | ⟨g, o, cap, cur, hv, hg, r⟩
  · exact .inl h2
  · exact .inr ⟨g, o, cap, cur, hv, Nat.le_trans hb hg, r⟩
theorem LR.of_q {α : Type} {K : Nat} {f : α → List Value} {w : World} {base : Nat} {e : TypeId} {v : Value} {l : List α} (hf : ∀ b, (f b).length = K) (h : OwnQ w base e K v l.length (l.map f).flatten) : LR K f w v l := LR.of_map hf h.reads

-- slices.AppendSeq[[]linchpin/api.Inline,linchpin/api.Inline]: parameters ['[]api.Inline', 'iter.Seq[linchpin/api.Inline]'] (free 0), results [('ResultVar.tmp', 4)], 13 slots
set_option maxRecDepth 100000 in
theorem appseq_ilC (xs : List Il) (gf : Nat) (caps : List Value) (mem : Nat → Prop) (w : World) (hgf : FnOK Try.prog gf) (hmm : ∀ b, mem b → b < w.heap.size) (hseq : ∀ W, Ext w W → SeqC Try.prog gf caps mem (xs.map fun x => [Value.agg (ilC x).toArray]) W) (hm8 : xs.length ≤ 60) :
    Calls Try.prog 45 [.slice none 0 0, .func (.func gf) #[] caps.toArray].toArray w fun e w' => ∃ v', e = .returned v' ∧ Ext w w' ∧ OwnQ w' w.heap.size 57 6 v' xs.length (xs.map ilC).flatten := by
  refine calls_ofM Try.func45 rfl Try.ntmps45 rfl ?_
  refine EC.seq ?_
  -- region 0  iter.go:50
  refine EC.region (fun i => [2, 1].getD i 0) [0, 1] rfl ?_
  refine ER.st rfl rfl rfl rfl (fun w1 h1 => Stp.box rfl (fun w2 h2 s2 r2 => ⟨h2, ?_⟩))  -- 0.0: t2 := box
  have hB5 := h1.size
  refine ER.sil rfl rfl rfl rfl (Sil.assign rfl) ?_  -- 0.1: t4 := assign
  refine ER.nil (fun w3 h3 => ?_)
  refine AQ.then ?_
  refine EC.seq ?_
  refine EC.seq ?_
  -- region 1  iter.go:51
  refine EC.region (fun i => [1].getD i 0) [0] rfl ?_
  refine ER.sil rfl rfl rfl rfl (Sil.move rfl) ?_  -- 1.0: t6 := move
  refine ER.nil (fun w4 h4 => ?_)
  refine AQ.then ?_
  refine EC.block ?_
  have hw1 := (((h1.trans h2).trans h3).trans h4)
  have k50 := (r2.ext (h3.trans h4))
  have hl5 := k50.lt
  refine EC.rangeA (xs := ((xs.map fun x => [Value.agg (ilC x).toArray]))) (mem := (mem)) rfl hgf rfl (fun x hx => by obtain ⟨y, _, rfl⟩ := List.mem_map.1 hx; rfl)
    (fun j S1 W => ∃ ov, S1 = (fun b => b = w1.heap.size ∨ ov.ownBlock = some b) ∧ Ext w W ∧ Row W w1.heap.size 32 [ov] ∧ OwnQ W (w1.heap.size + 1) 57 6 ov (xs.take j).length ((xs.take j).map ilC).flatten)
    (fun _ _ _ => False)
    (fun j S1 W W' h m => by
        obtain ⟨ov, rfl, hx, h5, ho⟩ := h
        exact ⟨ov, rfl, hx.modify m (fun k hk => Nat.le_trans hw1.size hk.1), m.row h5 (fun hb => hb.2 (.inl rfl)), ho.mod m (fun k hk hb => hb.2 (.inr hk))⟩) (fun _ _ _ _ h _ => h) (fun j S1 W h b hb => by
        obtain ⟨ov, rfl, hx, h5, ho⟩ := h
        rcases hb with rfl | hb
        · exact h5.lt
        · exact (ho.lt b hb).2)
    (fun W1 hW => hseq W1 (hw1.trans hW)) (fun b => b = w1.heap.size ∨ Value.ownBlock (.slice none 0 0) = some b) (fun b hb => ⟨fun hs => hs.elim (fun e => by have := hmm b hb; omega) (fun e => by cases e), Nat.lt_of_lt_of_le (hmm b hb) hw1.size⟩) (⟨_, rfl, hw1, k50, OwnQ.of_own (World.ownsRow_nil _ _ _ _)⟩) (fun k E W => ∃ b, ∃ hk : k < (xs).length, E = [(2, ptr w1.heap.size), (5, ptr b)] ∧ Row W b 57 (ilC (xs)[k]) ∧ w4.heap.size + 1 < b) (fun k E W W' h m => by
        obtain ⟨b, hk, rfl, h1, h2⟩ := h
        exact ⟨b, hk, rfl, m.row h1 (fun e => by omega), h2⟩) ?_ ?_ ?_ ?_
  · intro lr kr wr hkr hlr
    have hE := Ext.refl wr
    have hkr2 : kr < (xs).length := by simpa using hkr
    rw [List.getElem_map]
    -- region 2  iter.go:51
    refine EC.region (fun i => [2, 3].getD i 0) [0, 1] rfl ?_
    refine ER.st rfl rfl rfl rfl (fun w5 h5 => Stp.alloc inf57 (fun w6 h6 s6 r6 => ⟨h6, ?_⟩))  -- 2.0: t5 := alloc
    have hn4 := Nat.le_trans hE.size h5.size
    refine ER.bar rfl rfl rfl rfl (fun w7 h7 => Stp.store (by kernel_rfl) rfl rfl (r6.ext h7) rfl rfl (fun w8 u8 r8 => ?_))  -- 2.1: tNone := store
    have e8 := ((h5.trans h6).trans h7).upd u8 h5.size
    refine ER.nil (fun w9 h9 => ?_)
    exact AQ.assignedA (A := fun E W => (fun k E W => ∃ b, ∃ hk : k < (xs).length, E = [(2, ptr w1.heap.size), (5, ptr b)] ∧ Row W b 57 (ilC (xs)[k]) ∧ w4.heap.size + 1 < b) kr E W) [2, 5] rfl ((hE.trans e8).trans h9) (⟨_, by simpa using hkr, rfl, (r8.ext h9), by omega⟩)
  · intro lr kr Sr wr Er hkr hI hM hA
    have hE := Ext.refl wr
    obtain ⟨ov, rfl, hx, k5, ho⟩ := hI
    obtain ⟨b4, hkr2, rfl, k4, hb4⟩ := hA
    refine EC.block ?_
    -- region 3  iter.go:52
    refine EC.region (fun i => [0, 0, 2, 3, 3].getD i 0) [0, 1, 2, 3, 4] rfl ?_
    refine ER.ex rfl rfl rfl rfl (Exa.load flat32 rfl ((k5.ext hE).cell rfl)) ?_  -- 3.0: t8 := load
    refine ER.ex rfl rfl rfl rfl (Exa.loadAgg (vs := (ilC xs[kr])) agg57 rfl ((k4.ext hE).at)) ?_  -- 3.1: t9 := load
    refine ER.st rfl rfl rfl rfl (fun w10 h10 => Stp.buildAll [_] Try.underlying32 inf57 rfl rfl rfl rfl rfl rfl (fun w11 h11 s11 r11 => ⟨h11, ?_⟩))  -- 3.2: t10 := buildSlice
    --  -- 3.3: t11 := call
    refine ER.bar rfl rfl rfl rfl (fun w12 h12 => ?_)
    have hoa := ho.ext (((hE.trans h10).trans h11).trans h12)
    have hsa := (((hE.trans h10).trans h11).trans h12).size
    have hxa := hx.trans (((hE.trans h10).trans h11).trans h12)
    refine Stp.appendQ Try.underlying32 inf57 rfl rfl rfl hoa (Nat.le_trans (Nat.succ_le_of_lt k5.lt) hsa) (Reads.of_row (r11.ext h12) rfl (by decide)) (by intro q hq; simp [catCells, Value.cells] at hq; exact il1 _ q hq) (by rw [List.length_take]; omega) (by unfold maxLen; rw [List.length_take]; omega) (fun vq w13 ob g13 nb => ?_)
    obtain ⟨qa, qc, rfl, _⟩ := ob.reads.isS
    have hMb := ((((hE.trans h10).trans h11).trans h12).mod (fun b => b = w1.heap.size ∨ ov.ownBlock = some b)).trans (Mod.of_grown g13 (fun k hk => .inr hk))
    have hob := fun b (hb : b < wr.heap.size) (hs : b = w1.heap.size ∨ Value.ownBlock (.slice qa _ qc) = some b) => hs.imp (fun h => h) (fun hs => (nb b hs).elim (fun h => h) (fun hge => absurd hb (by omega)))
    have hxb := hxa.grown g13 (fun k hk => Nat.le_trans hB5 (Nat.le_of_succ_le (hoa.lt k hk).1))
    have k5b := (k5.ext (((hE.trans h10).trans h11).trans h12)).grown g13 (fun e => by have := (hoa.lt _ e.symm).1; omega)
    --  -- 3.4: tNone := store
    refine ER.bar rfl rfl rfl rfl (fun w14 h14 => Stp.store (by kernel_rfl) rfl rfl (k5b.ext ((Ext.refl _).trans h14)) rfl rfl (fun w15 u15 r5 => ?_))
    have hMc := (hMb.trans (((Ext.refl _).trans h14).mod _)).trans (u15.mod (S := fun b => b = w1.heap.size ∨ ov.ownBlock = some b) (.inl rfl))
    have hxc := (hxb.trans ((Ext.refl _).trans h14)).upd u15 hB5
    have hoc := (ob.ext ((Ext.refl _).trans h14)).upd u15 (fun k hk => by have := (ob.lt k hk).1; omega)
    refine ER.nil (fun w16 h16 => ?_)
    refine AQ.blockNormal ?_
    refine AQ.rqN (fun b => b = w1.heap.size ∨ _) (hMc.trans (h16.mod _)) hob ⟨_, rfl, hxc.trans h16, r5.ext h16, ?_⟩
    rw [List.take_succ_eq_append_getElem hkr2, List.length_append, List.map_append, List.flatten_append]
    exact hoc.ext h16
  · intro D Sr wr hD hM hold hnD hDr hI
    have hE := Ext.refl wr
    obtain ⟨ov, rfl, hx, k5, ho⟩ := hI
    refine AQ.blockNormal ?_
    refine AQ.then ?_
    refine EC.seq ?_
    -- region 4  iter.go:54
    refine EC.region (fun i => [0, 1].getD i 0) [0, 1] rfl ?_
    refine ER.ex rfl rfl rfl rfl (Exa.load flat32 rfl ((k5.ext hE).cell rfl)) ?_  -- 4.0: t12 := load
    refine ER.sil rfl rfl rfl rfl (Sil.assign rfl) ?_  -- 4.1: t4 := assign
    refine ER.nil (fun w17 h17 => ?_)
    refine AQ.then ?_
    refine EC.ret ?_
    have hlx : (xs.map fun x => [Value.agg (ilC x).toArray]).length = xs.length := List.length_map _
    rw [hlx, List.take_length] at ho
    obtain ⟨va, vc, rfl, _⟩ := ho.reads.isS
    exact AQ.outM (.inr rfl) [D] (res1 Try.results45 rfl) (by simp) (by simpa using Ext.obj (hE.trans h17) hDr) (fun w' hm => ⟨_, rfl, (hx.trans (hE.trans h17)).modify hm (fun k hk => by rw [List.mem_singleton] at hk; subst hk; exact Nat.le_trans hw1.size hD), ownq_low ((ho.ext (hE.trans h17)).mod hm (fun k hk hb => by rw [List.mem_singleton] at hb; subst hb; exact hnD (.inr hk))) (by omega)⟩)
  · intro D c Sr wr hD hM hold hnD hDr hX
    have hE := Ext.refl wr
    exact hX.elim

-- slices.Collect[linchpin/api.Inline]: parameters ['iter.Seq[linchpin/api.Inline]'] (free 0), results [('ResultVar.tmp', 2)], 5 slots
set_option maxRecDepth 100000 in
theorem collect_ilC (xs : List Il) (gf : Nat) (caps : List Value) (mem : Nat → Prop) (w : World) (hgf : FnOK Try.prog gf) (hmm : ∀ b, mem b → b < w.heap.size) (hseq : ∀ W, Ext w W → SeqC Try.prog gf caps mem (xs.map fun x => [Value.agg (ilC x).toArray]) W) (hm8 : xs.length ≤ 60) :
    Calls Try.prog 27 [.func (.func gf) #[] caps.toArray].toArray w fun e w' => ∃ v', e = .returned v' ∧ Ext w w' ∧ OwnQ w' w.heap.size 57 6 v' xs.length (xs.map ilC).flatten := by
  refine calls_of Try.func27 rfl Try.ntmps27 rfl ?_
  refine EC.seq ?_
  -- region 0  iter.go:59
  refine EC.region (fun i => [1].getD i 0) [0] rfl ?_
  refine ER.sil rfl rfl rfl rfl (Sil.assign rfl) ?_  -- 0.0: t2 := assign
  refine ER.nil (fun w1 h1 => ?_)
  refine AQ.then ?_
  refine EC.seq ?_
  -- region 1  iter.go:60
  refine EC.region (fun i => [1, 2, 1].getD i 0) [0, 1, 2] rfl ?_
  refine ER.sil rfl rfl rfl rfl (Sil.move rfl) ?_  -- 1.0: t3 := move
  have hes := h1.size
  refine ER.st rfl rfl rfl rfl (fun w2 h2 => Stp.call fok45 rfl rfl (Calls.mono ((appseq_ilC xs gf caps mem w2 hgf (fun b hb => Nat.lt_of_lt_of_le (hmm b hb) (h1.trans h2).size) (fun W hW => hseq W ((h1.trans h2).trans hW)) hm8)) ?_))  -- 1.1: t4 := call
  rintro _ w3 ⟨v3, rfl, h3, ho3⟩
  refine ⟨_, rfl, h3, ?_⟩
  have hes2 := h2.size
  refine ER.sil rfl rfl rfl rfl (Sil.assign rfl) ?_  -- 1.2: t2 := assign
  refine ER.nil (fun w4 h4 => ?_)
  refine AQ.then ?_
  refine EC.ret ?_
  refine AQ.ret1 Try.results27 rfl ?_
  exact ⟨_, rfl, (((h1.trans h2).trans h3).trans h4), ownq_low (ho3.ext h4) (by omega)⟩

-- slices.AppendSeq[[]linchpin/api.Var,linchpin/api.Var]: parameters ['[]api.Var', 'iter.Seq[linchpin/api.Var]'] (free 0), results [('ResultVar.tmp', 4)], 13 slots
set_option maxRecDepth 100000 in
theorem appseq_vrC (xs : List Vr) (gf : Nat) (caps : List Value) (mem : Nat → Prop) (w : World) (hgf : FnOK Try.prog gf) (hmm : ∀ b, mem b → b < w.heap.size) (hseq : ∀ W, Ext w W → SeqC Try.prog gf caps mem (xs.map fun x => [Value.agg (vrC x).toArray]) W) (hm8 : xs.length ≤ 60) :
    Calls Try.prog 47 [.slice none 0 0, .func (.func gf) #[] caps.toArray].toArray w fun e w' => ∃ v', e = .returned v' ∧ Ext w w' ∧ OwnQ w' w.heap.size 55 6 v' xs.length (xs.map vrC).flatten := by
  refine calls_ofM Try.func47 rfl Try.ntmps47 rfl ?_
  refine EC.seq ?_
  -- region 0  iter.go:50
  refine EC.region (fun i => [2, 1].getD i 0) [0, 1] rfl ?_
  refine ER.st rfl rfl rfl rfl (fun w1 h1 => Stp.box rfl (fun w2 h2 s2 r2 => ⟨h2, ?_⟩))  -- 0.0: t2 := box
  have hB5 := h1.size
  refine ER.sil rfl rfl rfl rfl (Sil.assign rfl) ?_  -- 0.1: t4 := assign
  refine ER.nil (fun w3 h3 => ?_)
  refine AQ.then ?_
  refine EC.seq ?_
  refine EC.seq ?_
  -- region 1  iter.go:51
  refine EC.region (fun i => [1].getD i 0) [0] rfl ?_
  refine ER.sil rfl rfl rfl rfl (Sil.move rfl) ?_  -- 1.0: t6 := move
  refine ER.nil (fun w4 h4 => ?_)
  refine AQ.then ?_
  refine EC.block ?_
  have hw1 := (((h1.trans h2).trans h3).trans h4)
  have k50 := (r2.ext (h3.trans h4))
  have hl5 := k50.lt
  refine EC.rangeA (xs := ((xs.map fun x => [Value.agg (vrC x).toArray]))) (mem := (mem)) rfl hgf rfl (fun x hx => by obtain ⟨y, _, rfl⟩ := List.mem_map.1 hx; rfl)
    (fun j S1 W => ∃ ov, S1 = (fun b => b = w1.heap.size ∨ ov.ownBlock = some b) ∧ Ext w W ∧ Row W w1.heap.size 33 [ov] ∧ OwnQ W (w1.heap.size + 1) 55 6 ov (xs.take j).length ((xs.take j).map vrC).flatten)
    (fun _ _ _ => False)
    (fun j S1 W W' h m => by
        obtain ⟨ov, rfl, hx, h5, ho⟩ := h
        exact ⟨ov, rfl, hx.modify m (fun k hk => Nat.le_trans hw1.size hk.1), m.row h5 (fun hb => hb.2 (.inl rfl)), ho.mod m (fun k hk hb => hb.2 (.inr hk))⟩) (fun _ _ _ _ h _ => h) (fun j S1 W h b hb => by
        obtain ⟨ov, rfl, hx, h5, ho⟩ := h
        rcases hb with rfl | hb
        · exact h5.lt
        · exact (ho.lt b hb).2)
    (fun W1 hW => hseq W1 (hw1.trans hW)) (fun b => b = w1.heap.size ∨ Value.ownBlock (.slice none 0 0) = some b) (fun b hb => ⟨fun hs => hs.elim (fun e => by have := hmm b hb; omega) (fun e => by cases e), Nat.lt_of_lt_of_le (hmm b hb) hw1.size⟩) (⟨_, rfl, hw1, k50, OwnQ.of_own (World.ownsRow_nil _ _ _ _)⟩) (fun k E W => ∃ b, ∃ hk : k < (xs).length, E = [(2, ptr w1.heap.size), (5, ptr b)] ∧ Row W b 55 (vrC (xs)[k]) ∧ w4.heap.size + 1 < b) (fun k E W W' h m => by
        obtain ⟨b, hk, rfl, h1, h2⟩ := h
        exact ⟨b, hk, rfl, m.row h1 (fun e => by omega), h2⟩) ?_ ?_ ?_ ?_
  · intro lr kr wr hkr hlr
    have hE := Ext.refl wr
    have hkr2 : kr < (xs).length := by simpa using hkr
    rw [List.getElem_map]
    -- region 2  iter.go:51
    refine EC.region (fun i => [2, 3].getD i 0) [0, 1] rfl ?_
    refine ER.st rfl rfl rfl rfl (fun w5 h5 => Stp.alloc inf55 (fun w6 h6 s6 r6 => ⟨h6, ?_⟩))  -- 2.0: t5 := alloc
    have hn4 := Nat.le_trans hE.size h5.size
    refine ER.bar rfl rfl rfl rfl (fun w7 h7 => Stp.store (by kernel_rfl) rfl rfl (r6.ext h7) rfl rfl (fun w8 u8 r8 => ?_))  -- 2.1: tNone := store
    have e8 := ((h5.trans h6).trans h7).upd u8 h5.size
    refine ER.nil (fun w9 h9 => ?_)
    exact AQ.assignedA (A := fun E W => (fun k E W => ∃ b, ∃ hk : k < (xs).length, E = [(2, ptr w1.heap.size), (5, ptr b)] ∧ Row W b 55 (vrC (xs)[k]) ∧ w4.heap.size + 1 < b) kr E W) [2, 5] rfl ((hE.trans e8).trans h9) (⟨_, by simpa using hkr, rfl, (r8.ext h9), by omega⟩)
  · intro lr kr Sr wr Er hkr hI hM hA
    have hE := Ext.refl wr
    obtain ⟨ov, rfl, hx, k5, ho⟩ := hI
    obtain ⟨b4, hkr2, rfl, k4, hb4⟩ := hA
    refine EC.block ?_
    -- region 3  iter.go:52
    refine EC.region (fun i => [0, 0, 2, 3, 3].getD i 0) [0, 1, 2, 3, 4] rfl ?_
    refine ER.ex rfl rfl rfl rfl (Exa.load flat33 rfl ((k5.ext hE).cell rfl)) ?_  -- 3.0: t8 := load
    refine ER.ex rfl rfl rfl rfl (Exa.loadAgg (vs := (vrC xs[kr])) agg55 rfl ((k4.ext hE).at)) ?_  -- 3.1: t9 := load
    refine ER.st rfl rfl rfl rfl (fun w10 h10 => Stp.buildAll [_] Try.underlying33 inf55 rfl rfl rfl rfl rfl rfl (fun w11 h11 s11 r11 => ⟨h11, ?_⟩))  -- 3.2: t10 := buildSlice
    --  -- 3.3: t11 := call
    refine ER.bar rfl rfl rfl rfl (fun w12 h12 => ?_)
    have hoa := ho.ext (((hE.trans h10).trans h11).trans h12)
    have hsa := (((hE.trans h10).trans h11).trans h12).size
    have hxa := hx.trans (((hE.trans h10).trans h11).trans h12)
    refine Stp.appendQ Try.underlying33 inf55 rfl rfl rfl hoa (Nat.le_trans (Nat.succ_le_of_lt k5.lt) hsa) (Reads.of_row (r11.ext h12) rfl (by decide)) (by intro q hq; simp [catCells, Value.cells] at hq; exact vr1 _ q hq) (by rw [List.length_take]; omega) (by unfold maxLen; rw [List.length_take]; omega) (fun vq w13 ob g13 nb => ?_)
    obtain ⟨qa, qc, rfl, _⟩ := ob.reads.isS
    have hMb := ((((hE.trans h10).trans h11).trans h12).mod (fun b => b = w1.heap.size ∨ ov.ownBlock = some b)).trans (Mod.of_grown g13 (fun k hk => .inr hk))
    have hob := fun b (hb : b < wr.heap.size) (hs : b = w1.heap.size ∨ Value.ownBlock (.slice qa _ qc) = some b) => hs.imp (fun h => h) (fun hs => (nb b hs).elim (fun h => h) (fun hge => absurd hb (by omega)))
    have hxb := hxa.grown g13 (fun k hk => Nat.le_trans hB5 (Nat.le_of_succ_le (hoa.lt k hk).1))
    have k5b := (k5.ext (((hE.trans h10).trans h11).trans h12)).grown g13 (fun e => by have := (hoa.lt _ e.symm).1; omega)
    --  -- 3.4: tNone := store
    refine ER.bar rfl rfl rfl rfl (fun w14 h14 => Stp.store (by kernel_rfl) rfl rfl (k5b.ext ((Ext.refl _).trans h14)) rfl rfl (fun w15 u15 r5 => ?_))
    have hMc := (hMb.trans (((Ext.refl _).trans h14).mod _)).trans (u15.mod (S := fun b => b = w1.heap.size ∨ ov.ownBlock = some b) (.inl rfl))
    have hxc := (hxb.trans ((Ext.refl _).trans h14)).upd u15 hB5
    have hoc := (ob.ext ((Ext.refl _).trans h14)).upd u15 (fun k hk => by have := (ob.lt k hk).1; omega)
    refine ER.nil (fun w16 h16 => ?_)
    refine AQ.blockNormal ?_
    refine AQ.rqN (fun b => b = w1.heap.size ∨ _) (hMc.trans (h16.mod _)) hob ⟨_, rfl, hxc.trans h16, r5.ext h16, ?_⟩
    rw [List.take_succ_eq_append_getElem hkr2, List.length_append, List.map_append, List.flatten_append]
    exact hoc.ext h16
  · intro D Sr wr hD hM hold hnD hDr hI
    have hE := Ext.refl wr
    obtain ⟨ov, rfl, hx, k5, ho⟩ := hI
    refine AQ.blockNormal ?_
    refine AQ.then ?_
    refine EC.seq ?_
    -- region 4  iter.go:54
    refine EC.region (fun i => [0, 1].getD i 0) [0, 1] rfl ?_
    refine ER.ex rfl rfl rfl rfl (Exa.load flat33 rfl ((k5.ext hE).cell rfl)) ?_  -- 4.0: t12 := load
    refine ER.sil rfl rfl rfl rfl (Sil.assign rfl) ?_  -- 4.1: t4 := assign
    refine ER.nil (fun w17 h17 => ?_)
    refine AQ.then ?_
    refine EC.ret ?_
    have hlx : (xs.map fun x => [Value.agg (vrC x).toArray]).length = xs.length := List.length_map _
    rw [hlx, List.take_length] at ho
    obtain ⟨va, vc, rfl, _⟩ := ho.reads.isS
    exact AQ.outM (.inr rfl) [D] (res1 Try.results47 rfl) (by simp) (by simpa using Ext.obj (hE.trans h17) hDr) (fun w' hm => ⟨_, rfl, (hx.trans (hE.trans h17)).modify hm (fun k hk => by rw [List.mem_singleton] at hk; subst hk; exact Nat.le_trans hw1.size hD), ownq_low ((ho.ext (hE.trans h17)).mod hm (fun k hk hb => by rw [List.mem_singleton] at hb; subst hb; exact hnD (.inr hk))) (by omega)⟩)
  · intro D c Sr wr hD hM hold hnD hDr hX
    have hE := Ext.refl wr
    exact hX.elim

-- slices.Collect[linchpin/api.Var]: parameters ['iter.Seq[linchpin/api.Var]'] (free 0), results [('ResultVar.tmp', 2)], 5 slots
set_option maxRecDepth 100000 in
theorem collect_vrC (xs : List Vr) (gf : Nat) (caps : List Value) (mem : Nat → Prop) (w : World) (hgf : FnOK Try.prog gf) (hmm : ∀ b, mem b → b < w.heap.size) (hseq : ∀ W, Ext w W → SeqC Try.prog gf caps mem (xs.map fun x => [Value.agg (vrC x).toArray]) W) (hm8 : xs.length ≤ 60) :
    Calls Try.prog 33 [.func (.func gf) #[] caps.toArray].toArray w fun e w' => ∃ v', e = .returned v' ∧ Ext w w' ∧ OwnQ w' w.heap.size 55 6 v' xs.length (xs.map vrC).flatten := by
  refine calls_of Try.func33 rfl Try.ntmps33 rfl ?_
  refine EC.seq ?_
  -- region 0  iter.go:59
  refine EC.region (fun i => [1].getD i 0) [0] rfl ?_
  refine ER.sil rfl rfl rfl rfl (Sil.assign rfl) ?_  -- 0.0: t2 := assign
  refine ER.nil (fun w1 h1 => ?_)
  refine AQ.then ?_
  refine EC.seq ?_
  -- region 1  iter.go:60
  refine EC.region (fun i => [1, 2, 1].getD i 0) [0, 1, 2] rfl ?_
  refine ER.sil rfl rfl rfl rfl (Sil.move rfl) ?_  -- 1.0: t3 := move
  have hes := h1.size
  refine ER.st rfl rfl rfl rfl (fun w2 h2 => Stp.call fok47 rfl rfl (Calls.mono ((appseq_vrC xs gf caps mem w2 hgf (fun b hb => Nat.lt_of_lt_of_le (hmm b hb) (h1.trans h2).size) (fun W hW => hseq W ((h1.trans h2).trans hW)) hm8)) ?_))  -- 1.1: t4 := call
  rintro _ w3 ⟨v3, rfl, h3, ho3⟩
  refine ⟨_, rfl, h3, ?_⟩
  have hes2 := h2.size
  refine ER.sil rfl rfl rfl rfl (Sil.assign rfl) ?_  -- 1.2: t2 := assign
  refine ER.nil (fun w4 h4 => ?_)
  refine AQ.then ?_
  refine EC.ret ?_
  refine AQ.ret1 Try.results33 rfl ?_
  exact ⟨_, rfl, (((h1.trans h2).trans h3).trans h4), ownq_low (ho3.ext h4) (by omega)⟩

end Go.Proofs.Ytcgapppamhffjaa
