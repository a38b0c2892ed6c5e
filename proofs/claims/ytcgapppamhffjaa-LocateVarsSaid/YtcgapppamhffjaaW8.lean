/- Locate: reversed. -/
import Derived.Test.YtcgapppamhffjaaW7
namespace Go.Proofs.Ytcgapppamhffjaa
open Go.RowKit Go.XK Go.LocateLaw

structure RevS where
  i : Nat
  m : List Il

theorem take_add {a b : List Value} {K i : Nat} (h : a.length = K) : (a ++ b).take (K + i) = a ++ b.take i := by
  rw [← h, List.take_length_add_append]
theorem drop_add {a b : List Value} {K i : Nat} (h : a.length = K) : (a ++ b).drop (K + i) = b.drop i := by
  rw [← h, List.drop_length_add_append]
theorem flat_len {α : Type} {K : Nat} {f : α → List Value} (hf : ∀ b, (f b).length = K) : ∀ l : List α, (l.map f).flatten.length = l.length * K
  | [] => by simp
  | x :: r => by rw [List.map_cons, List.flatten_cons, List.length_append, hf, flat_len hf r, List.length_cons, Nat.add_mul]; omega
theorem putL_map {α : Type} {K : Nat} {f : α → List Value} (hf : ∀ b, (f b).length = K) (x : α) : ∀ (l : List α) (i : Nat), i < l.length → putL (l.map f).flatten (i * K) (f x) = ((l.set i x).map f).flatten
  | [], i, h => absurd h (Nat.not_lt_zero i)
  | y :: r, 0, _ => by
    have hy := hf y
    have hx := hf x
    simp only [putL, Nat.zero_mul, List.take_zero, List.nil_append, Nat.zero_add, List.map_cons, List.flatten_cons, List.set_cons_zero]
    rw [List.drop_left' (by rw [hx, hy])]
  | y :: r, i + 1, h => by
    have hy := hf y
    have ih := putL_map hf x r i (by simpa using h)
    simp only [putL, List.map_cons, List.flatten_cons, List.set_cons_succ] at ih ⊢
    rw [← ih, Nat.add_mul, Nat.one_mul, Nat.add_comm (i * K) K, take_add hy, Nat.add_assoc, drop_add hy]
    simp
theorem ownq_block {w : World} {base : Nat} {e : TypeId} {size n : Nat} {v : Value} {xs : List Value} (h : OwnQ w base e size v n xs) (hn : 0 < n) : v.ownBlock = some (blk v) := by
  rcases h.2 with ⟨_, h0⟩ | ⟨g, o, cap, cur, rfl, _⟩
  · omega
  · rfl
theorem q_at {α : Type} {K : Nat} {f : α → List Value} {w : World} {base : Nat} {e : TypeId} {v : Value} {m : List α} (hf : ∀ b, (f b).length = K) (h : OwnQ w base e K v m.length (m.map f).flatten) {i : Nat} (hi : i < m.length) : At w (blk v) (ofs v + i * K) (f m[i]) := (LR.of_q hf h).at hi

-- slices.Reverse[[]linchpin/api.Inline,linchpin/api.Inline]: parameters ['[]api.Inline'] (free 0), results [], 28 slots
set_option maxRecDepth 100000 in
theorem reverse_any (l : List Il) (v : Value) (base : Nat) (w : World) (ho : OwnQ w base 57 6 v l.length (l.map ilC).flatten) (hm8 : l.length ≤ 60) :
    Calls Try.prog 30 [v].toArray w fun e w' => e = .returned (.tuple #[]) ∧ Mod (fun b => v.ownBlock = some b) w w' ∧ OwnQ w' base 57 6 v l.length (l.reverse.map ilC).flatten := by
  have hr := LR.of_q ilL ho
  have hm := hr.max
  refine calls_of Try.func30 rfl Try.ntmps30 rfl ?_
  refine EC.seq ?_
  -- region 0  slices.go:484
  refine EC.region (fun i => [1, 1, 1, 1, 1].getD i 0) [0, 1, 2, 3, 4] rfl ?_
  refine ER.sil rfl rfl rfl rfl (Sil.move rfl) ?_  -- 0.0: t4 := move
  refine ER.sil rfl rfl rfl rfl (Sil.lenR Try.underlying32 rfl (hr.isS)) ?_  -- 0.1: t5 := call
  refine ER.sil rfl rfl rfl rfl (Sil.sub rfl rfl) ?_  -- 0.2: t6 := binOp
  rw [show IntKind.i64.wrap ((l.length : Int) - 1) = (l.length : Int) - 1 - ((0 : Nat) : Int) from by rw [IntWalk.i64_in _ (by omega)]; omega]
  refine ER.sil rfl rfl rfl rfl (Sil.assign rfl) ?_  -- 0.3: t2 := assign
  refine ER.sil rfl rfl rfl rfl (Sil.assign rfl) ?_  -- 0.4: t3 := assign
  refine ER.nil (fun w1 h1 => ?_)
  refine AQ.then ?_
  refine EC.block ?_
  refine EC.loop (σ := RevS) (fun q => [(0, v), (2, .int .i64 (q.i : Int)), (3, .int .i64 ((l.length : Int) - 1 - (q.i : Int)))]) (fun q wr => Mod (fun b => v.ownBlock = some b) w wr ∧ RevI l q.m q.i ∧ q.i ≤ l.length ∧ OwnQ wr base 57 6 v q.m.length (q.m.map ilC).flatten) (fun q => l.length - q.i) ⟨0, l⟩ [0, 2, 3] rfl ?_ (fun q wr hF => ?_)
  · exact ⟨h1.mod _, RevI.start l, Nat.zero_le _, ho.ext h1⟩
  obtain ⟨hM, hR, hk, hom⟩ := hF
  have hE := Ext.refl wr
  have hml := hR.1
  refine EC.seq ?_
  refine EC.seq ?_
  -- region 1  slices.go:484
  refine EC.region (fun i => [1, 1, 1].getD i 0) [0, 1, 2] rfl ?_
  refine ER.sil rfl rfl rfl rfl (Sil.move rfl) ?_  -- 1.0: t7 := move
  refine ER.sil rfl rfl rfl rfl (Sil.move rfl) ?_  -- 1.1: t8 := move
  refine ER.sil rfl rfl rfl rfl (Sil.lss rfl rfl) ?_  -- 1.2: t9 := binOp
  refine ER.nil (fun w2 h2 => ?_)
  refine AQ.then ?_
  refine EC.cond rfl (fun hb0 => ?_) (fun hb0 => ?_)  -- cond 0: t9
  ·
    have hij : q.i < (l.length - 1 - q.i) := by have := of_decide_eq_true hb0; omega
    have hjn : ((l.length : Int) - 1 - (q.i : Int)).toNat = (l.length - 1 - q.i) := by omega
    have hil : q.i < q.m.length := by omega
    have hjl : (l.length - 1 - q.i) < q.m.length := by omega
    have hob := ownq_block hom (by omega)
    refine EC.skip ?_
    refine AQ.then ?_
    refine EC.seq ?_
    refine EC.block ?_
    -- region 3  slices.go:485
    refine EC.draw (fun i => [1, 1, 1, 1, 1, 1, 1, 0, 1, 1, 1, 0, 1, 3, 1, 3].getD i 0) [0, 1, 2, 3, 4, 5, 6, 7, 8, 9, 10, 11, 12, 13, 14, 15] (by kernel_rfl) (by kernel_rfl) ?_
    refine ER.sil rfl rfl rfl rfl (Sil.move rfl) ?_  -- 3.0: t14 := move
    refine ER.sil rfl rfl rfl rfl (Sil.move rfl) ?_  -- 3.1: t15 := move
    refine ER.sil rfl rfl rfl rfl (Sil.move rfl) ?_  -- 3.2: t16 := move
    refine ER.sil rfl rfl rfl rfl (Sil.move rfl) ?_  -- 3.3: t17 := move
    refine ER.sil rfl rfl rfl rfl (Sil.move rfl) ?_  -- 3.4: t18 := move
    refine ER.sil rfl rfl rfl rfl (Sil.move rfl) ?_  -- 3.5: t19 := move
    refine ER.sil rfl rfl rfl rfl (Sil.indexR Try.underlying32 inf57 rfl rfl (hr.isE (by omega)) (by omega) (by omega)) ?_  -- 3.6: t20 := indexAddr
    rw [hjn]
    refine ER.ex rfl rfl rfl rfl (Exa.loadAgg (vs := (ilC q.m[(l.length - 1 - q.i)])) agg57 rfl ((q_at ilL hom hjl).ext (hE.trans h2))) ?_  -- 3.7: t21 := load
    refine ER.sil rfl rfl rfl rfl (Sil.move rfl) ?_  -- 3.8: t22 := move
    refine ER.sil rfl rfl rfl rfl (Sil.move rfl) ?_  -- 3.9: t23 := move
    refine ER.sil rfl rfl rfl rfl (Sil.indexR Try.underlying32 inf57 rfl rfl (hr.isE (by omega)) (by omega) (by omega)) ?_  -- 3.10: t24 := indexAddr
    refine ER.ex rfl rfl rfl rfl (Exa.loadAgg (vs := (ilC q.m[q.i])) agg57 rfl ((q_at ilL hom hil).ext (hE.trans h2))) ?_  -- 3.11: t25 := load
    refine ER.sil rfl rfl rfl rfl (Sil.indexR Try.underlying32 inf57 rfl rfl (hr.isE (by omega)) (by omega) (by omega)) ?_  -- 3.12: t26 := indexAddr
    --  -- 3.13: tNone := store
    refine ER.bar rfl rfl rfl rfl (fun w3 h3 => Stp.storeQ (by kernel_rfl) rfl (hom.ext ((hE.trans h2).trans h3)) (c := q.i * 6) (by rw [flat_len ilL]; show _ + 6 ≤ _; omega) rfl rfl (by rw [flat_len ilL]; omega) (fun w4 u4 oa => ?_))
    have ob : OwnQ w4 base 57 6 v (q.m.set q.i q.m[(l.length - 1 - q.i)]).length ((q.m.set q.i q.m[(l.length - 1 - q.i)]).map ilC).flatten := by
      rw [List.length_set, ← putL_map ilL _ _ _ hil]
      exact oa
    have Ma := (hM.trans (((hE.trans h2).trans h3).mod _)).trans (u4.mod (S := (fun b => v.ownBlock = some b)) hob)
    refine ER.sil rfl rfl rfl rfl (Sil.indexR Try.underlying32 inf57 rfl rfl (hr.isE (by omega)) (by omega) (by omega)) ?_  -- 3.14: t27 := indexAddr
    rw [hjn]
    --  -- 3.15: tNone := store
    refine ER.bar rfl rfl rfl rfl (fun w5 h5 => Stp.storeQ (by kernel_rfl) rfl (ob.ext ((Ext.refl _).trans h5)) (c := (l.length - 1 - q.i) * 6) (by rw [flat_len ilL, List.length_set]; show _ + 6 ≤ _; omega) rfl rfl (by rw [flat_len ilL, List.length_set]; omega) (fun w6 u6 oc => ?_))
    have od : OwnQ w6 base 57 6 v ((q.m.set q.i q.m[(l.length - 1 - q.i)]).set (l.length - 1 - q.i) q.m[q.i]).length (((q.m.set q.i q.m[(l.length - 1 - q.i)]).set (l.length - 1 - q.i) q.m[q.i]).map ilC).flatten := by
      rw [List.length_set, ← putL_map ilL _ _ _ (by rw [List.length_set]; omega)]
      exact oc
    have Mb := (Ma.trans (((Ext.refl _).trans h5).mod _)).trans (u6.mod (S := (fun b => v.ownBlock = some b)) hob)
    refine ER.nil (fun w7 h7 => ?_)
    refine AQ.blockNormal ?_
    refine AQ.then ?_
    -- region 2  slices.go:484
    refine EC.region (fun i => [1, 1, 1, 1, 1, 1].getD i 0) [0, 1, 2, 3, 4, 5] rfl ?_
    refine ER.sil rfl rfl rfl rfl (Sil.move rfl) ?_  -- 2.0: t10 := move
    refine ER.sil rfl rfl rfl rfl (Sil.add rfl rfl) ?_  -- 2.1: t11 := binOp
    rw [wrap_succ (show q.i < l.length by omega) hm]
    refine ER.sil rfl rfl rfl rfl (Sil.move rfl) ?_  -- 2.2: t12 := move
    refine ER.sil rfl rfl rfl rfl (Sil.sub rfl rfl) ?_  -- 2.3: t13 := binOp
    rw [show IntKind.i64.wrap ((l.length : Int) - 1 - (q.i : Int) - 1) = (l.length : Int) - 1 - ((q.i + 1 : Nat) : Int) from by rw [IntWalk.i64_in _ (by omega)]; omega]
    refine ER.sil rfl rfl rfl rfl (Sil.assign rfl) ?_  -- 2.4: t2 := assign
    refine ER.sil rfl rfl rfl rfl (Sil.assign rfl) ?_  -- 2.5: t3 := assign
    refine ER.nil (fun w8 h8 => ?_)
    refine AQ.round ⟨q.i + 1, _⟩ [0, 2, 3] rfl ⟨Mb.trans ((h7.trans h8).mod _), hR.step rfl hij (List.getElem?_eq_getElem hjl) (List.getElem?_eq_getElem hil), by simp only; omega, od.ext (h7.trans h8)⟩ (by simp only; omega)
  ·
    refine EC.exit ?_
    refine AQ.thenExit ?_
    refine AQ.thenExit ?_
    refine AQ.blockHit ?_
    refine AQ.ret0 Try.results30 ?_
    have hge : l.length ≤ 2 * q.i + 1 := by have := of_decide_eq_false hb0; omega
    rw [hml, hR.done hge] at hom
    exact ⟨rfl, hM.trans ((hE.trans h2).mod _), hom.ext (hE.trans h2)⟩

end Go.Proofs.Ytcgapppamhffjaa
