/- Locate: Vars. -/
import Derived.Test.YtcgapppamhffjaaW6
import Derived.Test.YtcgapppamhffjaaField
namespace Go.Proofs.Ytcgapppamhffjaa
open Go.RowKit Go.XK Go.LocateLaw

structure VarS where
  k : Nat
  v : Value

theorem LR.drop {α : Type} {K : Nat} {f : α → List Value} {w : World} {v : Value} {l : List α} (hf : ∀ b, (f b).length = K) (h : LR K f w v l) {i : Nat} (hi : i ≤ l.length) : LR K f w (dropV K v i) (l.drop i) := by
  refine LR.of_map hf ?_
  have := Reads.dropV h.reads hi
  rw [List.length_drop, List.map_drop]
  have e : ∀ (l : List α) (i : Nat), (l.map f).flatten.drop (i * K) = ((l.map f).drop i).flatten := by
    intro l
    induction l with
    | nil => intro i; simp
    | cons x r ih =>
      intro i
      cases i with
      | zero => simp
      | succ i =>
        have hx := hf x
        rw [List.map_cons, List.flatten_cons, List.drop_succ_cons, ← ih i, Nat.succ_mul, Nat.add_comm, ← List.drop_drop, List.drop_left' hx]
  rw [← e]
  exact this

-- slices.IndexFunc[[]linchpin/api.Var,linchpin/api.Var]: parameters ['[]api.Var', 'func(api.Var) bool'] (free 0), results [('ResultVar.tmp', 4)], 19 slots
set_option maxRecDepth 100000 in
theorem index_vrC (l : List Vr) (v : Value) (g : Nat) (caps : List Value) (p : Vr → Bool) (w : World) (hl : LR 6 vrC w v l) (hg : FnOK Try.prog g) (hp : PredC g caps vrC p w) :
    Calls Try.prog 49 [v, .func (.func g) #[] caps.toArray].toArray w fun e w' => e = .returned (.int .i64 (idxI p l)) ∧ Ext w w' := by
  have hm := hl.max
  refine calls_of Try.func49 rfl Try.ntmps49 rfl ?_
  refine EC.seq ?_
  -- region 0  slices.go:107
  refine EC.region (fun i => [1].getD i 0) [0] rfl ?_
  refine ER.sil rfl rfl rfl rfl (Sil.assign rfl) ?_  -- 0.0: t4 := assign
  refine ER.nil (fun w1 h1 => ?_)
  refine AQ.then ?_
  refine EC.seq ?_
  refine EC.seq ?_
  -- region 1  slices.go:108
  refine EC.region (fun i => [1, 1, 1].getD i 0) [0, 1, 2] rfl ?_
  refine ER.sil rfl rfl rfl rfl (Sil.move rfl) ?_  -- 1.0: t6 := move
  refine ER.sil rfl rfl rfl rfl (Sil.lenR Try.underlying33 rfl (hl.isS)) ?_  -- 1.1: t7 := call
  refine ER.sil rfl rfl rfl rfl (Sil.move rfl) ?_  -- 1.2: t8 := move
  refine ER.nil (fun w2 h2 => ?_)
  refine AQ.then ?_
  refine EC.block ?_
  refine EC.loop (σ := Nat) (fun k => [(0, v), (1, .func (.func g) #[] caps.toArray), (7, .int .i64 (l.length : Int)), (8, .int .i64 (k : Int))]) (fun k wr => Ext w wr ∧ k ≤ l.length ∧ ∀ j (h : j < l.length), j < k → p l[j] = false) (fun k => l.length - k) 0 [0, 1, 7, 8] rfl ?_ (fun k wr hF => ?_)
  · exact ⟨(h1.trans h2), Nat.zero_le _, fun j _ h => absurd h (Nat.not_lt_zero j)⟩
  obtain ⟨hE, hk, hok⟩ := hF
  refine EC.seq ?_
  -- region 2  slices.go:108
  refine EC.region (fun i => [1].getD i 0) [0] rfl ?_
  refine ER.sil rfl rfl rfl rfl (Sil.lss rfl rfl) ?_  -- 2.0: t9 := binOp
  refine ER.nil (fun w3 h3 => ?_)
  refine AQ.then ?_
  refine EC.seq ?_
  refine EC.cond rfl (fun hb0 => ?_) (fun hb0 => ?_)  -- cond 0: t9
  ·
    have hlt : k < l.length := by have := of_decide_eq_true hb0; omega
    refine EC.skip ?_
    refine AQ.then ?_
    refine EC.seq ?_
    refine EC.block ?_
    refine EC.seq ?_
    -- region 3  slices.go:108
    refine EC.region (fun i => [1, 1].getD i 0) [0, 1] rfl ?_
    refine ER.sil rfl rfl rfl rfl (Sil.move rfl) ?_  -- 3.0: t10 := move
    refine ER.sil rfl rfl rfl rfl (Sil.assign rfl) ?_  -- 3.1: t5 := assign
    refine ER.nil (fun w4 h4 => ?_)
    refine AQ.then ?_
    refine EC.seq ?_
    -- region 4  slices.go:109
    refine EC.region (fun i => [1, 1, 1, 1, 0, 0].getD i 0) [0, 1, 2, 3, 4, 5] rfl ?_
    refine ER.sil rfl rfl rfl rfl (Sil.move rfl) ?_  -- 4.0: t11 := move
    refine ER.sil rfl rfl rfl rfl (Sil.move rfl) ?_  -- 4.1: t12 := move
    refine ER.sil rfl rfl rfl rfl (Sil.move rfl) ?_  -- 4.2: t13 := move
    refine ER.sil rfl rfl rfl rfl (Sil.indexR Try.underlying33 inf55 rfl rfl (hl.isE (by omega)) (by omega) (by omega)) ?_  -- 4.3: t14 := indexAddr
    refine ER.ex rfl rfl rfl rfl (Exa.loadAgg (vs := (vrC (l[k]))) agg55 rfl ((hl.at hlt).ext ((hE.trans h3).trans h4))) ?_  -- 4.4: t15 := load
    refine ER.ex rfl rfl rfl rfl (Exa.callC hg rfl rfl (fun wx hx => (hp l[k] wx (((hE.trans h3).trans h4).trans hx)))) ?_  -- 4.5: t16 := call
    refine ER.nil (fun w5 h5 => ?_)
    refine AQ.then ?_
    refine EC.cond rfl (fun hb1 => ?_) (fun hb1 => ?_)  -- cond 1: t16
    ·
      refine EC.seq ?_
      -- region 5  slices.go:110
      refine EC.region (fun i => [1, 1].getD i 0) [0, 1] rfl ?_
      refine ER.sil rfl rfl rfl rfl (Sil.move rfl) ?_  -- 5.0: t17 := move
      refine ER.sil rfl rfl rfl rfl (Sil.assign rfl) ?_  -- 5.1: t4 := assign
      refine ER.nil (fun w6 h6 => ?_)
      refine AQ.then ?_
      refine EC.ret ?_
      refine AQ.blockRet ?_
      refine AQ.thenRet ?_
      refine AQ.thenRet ?_
      refine AQ.blockRet ?_
      refine AQ.thenRet ?_
      refine AQ.ret1 Try.results49 rfl ?_
      exact ⟨by rw [idxI_hit hlt hb1 hok], ((((hE.trans h3).trans h4).trans h5).trans h6)⟩
    ·
      refine EC.skip ?_
      refine AQ.blockNormal ?_
      refine AQ.then ?_
      -- region 6  slices.go:108
      refine EC.region (fun i => [1, 1].getD i 0) [0, 1] rfl ?_
      refine ER.sil rfl rfl rfl rfl (Sil.add rfl rfl) ?_  -- 6.0: t18 := binOp
      refine ER.sil rfl rfl rfl rfl (Sil.move rfl) ?_  -- 6.1: t8 := move
      refine ER.nil (fun w7 h7 => ?_)
      refine AQ.round (k + 1) [0, 1, 7, 8] (by rw [← wrap_succ hlt hm]; rfl) ⟨((((hE.trans h3).trans h4).trans h5).trans h7), hlt, fun j h hj => ?_⟩ (by omega)
      rcases Nat.lt_or_eq_of_le (Nat.le_of_lt_succ hj) with hj | rfl
      · exact hok j h hj
      · exact hb1
  ·
    refine EC.exit ?_
    refine AQ.thenExit ?_
    refine AQ.thenExit ?_
    refine AQ.blockHit ?_
    refine AQ.then ?_
    refine EC.seq ?_
    -- region 7  slices.go:113
    refine EC.region (fun i => [1].getD i 0) [0] rfl ?_
    refine ER.sil rfl rfl rfl rfl (Sil.assign rfl) ?_  -- 7.0: t4 := assign
    refine ER.nil (fun w8 h8 => ?_)
    refine AQ.then ?_
    refine EC.ret ?_
    refine AQ.ret1 Try.results49 rfl ?_
    have hge : k = l.length := by have := of_decide_eq_false hb0; omega
    subst hge
    exact ⟨by rw [idxI_miss fun j h => hok j h h], ((hE.trans h3).trans h8)⟩

-- slices.ContainsFunc[[]linchpin/api.Var,linchpin/api.Var]: parameters ['[]api.Var', 'func(api.Var) bool'] (free 0), results [('ResultVar.tmp', 4)], 9 slots
set_option maxRecDepth 100000 in
theorem contains_vrC (l : List Vr) (v : Value) (g : Nat) (caps : List Value) (p : Vr → Bool) (w : World) (hl : LR 6 vrC w v l) (hg : FnOK Try.prog g) (hp : PredC g caps vrC p w) :
    Calls Try.prog 36 [v, .func (.func g) #[] caps.toArray].toArray w fun e w' => e = .returned (.bool (l.any p)) ∧ Ext w w' := by
  refine calls_of Try.func36 rfl Try.ntmps36 rfl ?_
  refine EC.seq ?_
  -- region 0  slices.go:124
  refine EC.region (fun i => [1].getD i 0) [0] rfl ?_
  refine ER.sil rfl rfl rfl rfl (Sil.assign rfl) ?_  -- 0.0: t4 := assign
  refine ER.nil (fun w1 h1 => ?_)
  refine AQ.then ?_
  refine EC.seq ?_
  -- region 1  slices.go:125
  refine EC.region (fun i => [1, 1, 0, 1, 1].getD i 0) [0, 1, 2, 3, 4] rfl ?_
  refine ER.sil rfl rfl rfl rfl (Sil.move rfl) ?_  -- 1.0: t5 := move
  refine ER.sil rfl rfl rfl rfl (Sil.move rfl) ?_  -- 1.1: t6 := move
  refine ER.ex rfl rfl rfl rfl (Exa.call fok49 rfl rfl (fun wx hx => (index_vrC l v g caps p wx (hl.ext (h1.trans hx)) hg (hp.ext (h1.trans hx))))) ?_  -- 1.2: t7 := call
  refine ER.sil rfl rfl rfl rfl (Sil.geq rfl rfl) ?_  -- 1.3: t8 := binOp
  refine ER.sil rfl rfl rfl rfl (Sil.assign rfl) ?_  -- 1.4: t4 := assign
  refine ER.nil (fun w2 h2 => ?_)
  refine AQ.then ?_
  refine EC.ret ?_
  refine AQ.ret1 Try.results36 rfl ?_
  exact ⟨by rw [← idxI_any], (h1.trans h2)⟩

-- linchpin/locate.Vars: parameters ['api.Image', 'int'] (free 0), results [('ResultVar.tmp', 4)], 45 slots
set_option maxRecDepth 100000 in
theorem vars_any (cs : List Value) (inf : Inf) (p : Int) (w : World) (hi : InfC w cs inf) (hm8 : inf.vars.length ≤ 60) :
    Calls Try.prog 13 [.agg cs.toArray, .int .i64 p].toArray w fun e w' => ∃ v', e = .returned v' ∧ Ext w w' ∧ LR 6 vrC w' v' (varsS inf p) := by
  obtain ⟨vv, hev, hvl⟩ := hi.2.2.2.2.2.1
  have hsl : (showV inf p).length ≤ 60 := Nat.le_trans (List.length_filter_le ..) hm8
  refine calls_of Try.func13 rfl Try.ntmps13 rfl ?_
  refine EC.seq ?_
  -- region 0  locate.go:59
  refine EC.region (fun i => [2, 2, 1].getD i 0) [0, 1, 2] rfl ?_
  refine ER.st rfl rfl rfl rfl (fun w1 h1 => Stp.box rfl (fun w2 h2 s2 r2 => ⟨h2, ?_⟩))  -- 0.0: t2 := box
  refine ER.st rfl rfl rfl rfl (fun w3 h3 => Stp.box rfl (fun w4 h4 s4 r4 => ⟨h4, ?_⟩))  -- 0.1: t3 := box
  refine ER.sil rfl rfl rfl rfl (Sil.assign rfl) ?_  -- 0.2: t4 := assign
  refine ER.nil (fun w5 h5 => ?_)
  refine AQ.then ?_
  refine EC.seq ?_
  refine EC.seq ?_
  -- region 1  locate.go:60
  refine EC.region (fun i => [0, 0, 0, 1, 1, 1, 2, 3, 1].getD i 0) [0, 1, 2, 3, 4, 5, 6, 7, 8] rfl ?_
  refine ER.ex rfl rfl rfl rfl (Exa.loadAgg (vs := cs) (by rw [hi.len]; exact agg39) rfl ((r2.ext ((h3.trans h4).trans h5)).at)) ?_  -- 1.0: t12 := load
  refine ER.ex rfl rfl rfl rfl (Exa.load flat3 rfl ((r4.ext h5).cell rfl)) ?_  -- 1.1: t13 := load
  refine ER.ex rfl rfl rfl rfl (Exa.call fok19 rfl rfl (fun wx hx => (node_any cs inf p wx (hi.ext (((((h1.trans h2).trans h3).trans h4).trans h5).trans hx))))) ?_  -- 1.2: t14 := call
  refine ER.sil rfl rfl rfl rfl (Sil.move rfl) ?_  -- 1.3: t11 := move
  refine ER.sil rfl rfl rfl rfl (Sil.extract rfl rfl) ?_  -- 1.4: t15 := extract
  refine ER.sil rfl rfl rfl rfl (Sil.extract rfl rfl) ?_  -- 1.5: t16 := extract
  refine ER.st rfl rfl rfl rfl (fun w6 h6 => Stp.alloc inf61 (fun w7 h7 s7 r7 => ⟨h7, ?_⟩))  -- 1.6: t5 := alloc
  refine ER.bar rfl rfl rfl rfl (fun w8 h8 => Stp.store (by kernel_rfl) rfl rfl (r7.ext h8) rfl rfl (fun w9 u9 r9 => ?_))  -- 1.7: tNone := store
  have e9 := ((h6.trans h7).trans h8).upd u9 h6.size
  refine ER.sil rfl rfl rfl rfl (Sil.assign rfl) ?_  -- 1.8: t6 := assign
  refine ER.nil (fun w10 h10 => ?_)
  refine AQ.then ?_
  refine EC.seq ?_
  -- region 2  locate.go:60
  refine EC.region (fun i => [1, 1].getD i 0) [0, 1] rfl ?_
  refine ER.sil rfl rfl rfl rfl (Sil.move rfl) ?_  -- 2.0: t17 := move
  refine ER.sil rfl rfl rfl rfl (Sil.not rfl) ?_  -- 2.1: t18 := unOp
  refine ER.nil (fun w11 h11 => ?_)
  refine AQ.then ?_
  refine EC.cond rfl (fun hb0 => ?_) (fun hb0 => ?_)  -- cond 0: t18
  ·
    refine EC.seq ?_
    -- region 3  locate.go:61
    refine EC.region (fun i => [1].getD i 0) [0] rfl ?_
    refine ER.sil rfl rfl rfl rfl (Sil.assign rfl) ?_  -- 3.0: t4 := assign
    refine ER.nil (fun w12 h12 => ?_)
    refine AQ.then ?_
    refine EC.ret ?_
    refine AQ.thenRet ?_
    refine AQ.ret1 Try.results13 rfl ?_
    refine ⟨_, rfl, ((((((((h1.trans h2).trans h3).trans h4).trans h5).trans e9).trans h10).trans h11).trans h12), ?_⟩
    have hnb : (nodeO inf p).isSome = false := by simpa using hb0
    rw [varsS, if_neg (by rw [hnb]; exact Bool.false_ne_true)]
    exact LR.nil _
  ·
    have hnb : (nodeO inf p).isSome = true := by simpa using hb0
    refine EC.skip ?_
    refine AQ.then ?_
    refine EC.seq ?_
    -- region 4  locate.go:63
    refine EC.region (fun i => [1, 1, 0, 1, 2, 2, 1].getD i 0) [0, 1, 2, 3, 4, 5, 6] rfl ?_
    refine ER.sil rfl rfl rfl rfl (Sil.fieldAddr Try.underlying39 rfl inf36 rfl) ?_  -- 4.0: t19 := fieldAddr
    refine ER.sil rfl rfl rfl rfl (Sil.fieldAddr Try.underlying36 rfl inf33 rfl) ?_  -- 4.1: t20 := fieldAddr
    refine ER.ex rfl rfl rfl rfl (Exa.load flat33 rfl (((r2.ext (((((h3.trans h4).trans h5).trans e9).trans h10).trans h11))).cell hev)) ?_  -- 4.2: t21 := load
    refine ER.sil rfl rfl rfl rfl (Sil.makeFunc rfl rfl) ?_  -- 4.3: t22 := makeFunc
    have hes := (((((((h1.trans h2).trans h3).trans h4).trans h5).trans e9).trans h10).trans h11).size
    refine ER.st rfl rfl rfl rfl (fun w13 h13 => Stp.call fok34 rfl rfl (Calls.mono ((some_vrC_any vv _ w13 (hvl.ext (((((((h1.trans h2).trans h3).trans h4).trans h5).trans e9).trans h10).trans h11)).isS3 ⟨_, _, _, rfl⟩)) ?_))  -- 4.4: t23 := call
    rintro _ w14 ⟨v14, rfl, h14, ⟨c1, c2, hv14, hc114, hc214, hl1, hl2⟩⟩
    refine ⟨_, rfl, h14, ?_⟩
    subst hv14
    have hes2 := h13.size
    refine ER.st rfl rfl rfl rfl (fun w15 h15 => Stp.call fok33 rfl rfl (Calls.mono ((collect_vrC (showV inf p) _ [ptr c1, ptr c2] (fun b => b < w4.heap.size ∨ b = c1 ∨ b = c2) w15 fok48 (fun b hb => hb.elim (fun h => Nat.lt_of_lt_of_le h ((((((h5.trans e9).trans h10).trans h11).trans h13).trans h14).trans h15).size) (fun h => h.elim (fun e => e ▸ (hc114.ext h15).lt) (fun e => e ▸ (hc214.ext h15).lt))) (fun W hW => some_vrC_seq inf.vars vv _ [ptr w3.heap.size] (vrP p) w4 c1 c2 W (((((((h5.trans e9).trans h10).trans h11).trans h13).trans h14).trans h15).trans hW) (hvl.ext (((h1.trans h2).trans h3).trans h4)) fok35 (fun x wz hz => vars1_any x p w3.heap.size wz (r4.ext hz)) ((hc114.ext h15).ext hW) ((hc214.ext h15).ext hW)) hsl)) ?_))  -- 4.5: t24 := call
    rintro _ w16 ⟨v16, rfl, h16, hs16⟩
    refine ⟨_, rfl, h16, ?_⟩
    have hsh0 := LR.of_q vrL hs16
    refine ER.sil rfl rfl rfl rfl (Sil.assign rfl) ?_  -- 4.6: t7 := assign
    refine ER.nil (fun w17 h17 => ?_)
    refine AQ.then ?_
    refine EC.seq ?_
    -- region 5  locate.go:64
    refine EC.region (fun i => [1].getD i 0) [0] rfl ?_
    refine ER.sil rfl rfl rfl rfl (Sil.assign rfl) ?_  -- 5.0: t8 := assign
    refine ER.nil (fun w18 h18 => ?_)
    refine AQ.then ?_
    refine EC.seq ?_
    refine EC.seq ?_
    -- region 6  locate.go:65
    refine EC.region (fun i => [1, 1, 1].getD i 0) [0, 1, 2] rfl ?_
    refine ER.sil rfl rfl rfl rfl (Sil.move rfl) ?_  -- 6.0: t25 := move
    refine ER.sil rfl rfl rfl rfl (Sil.lenR Try.underlying33 rfl (hsh0.isS)) ?_  -- 6.1: t26 := call
    refine ER.sil rfl rfl rfl rfl (Sil.move rfl) ?_  -- 6.2: t27 := move
    refine ER.nil (fun w19 h19 => ?_)
    have hwL := ((((((((((((((h1.trans h2).trans h3).trans h4).trans h5).trans e9).trans h10).trans h11).trans h13).trans h14).trans h15).trans h16).trans h17).trans h18).trans h19)
    have hsh := hsh0.ext ((h17.trans h18).trans h19)
    refine AQ.then ?_
    refine EC.block ?_
    refine EC.loop (σ := VarS) (fun q => [(7, v16), (8, q.v), (25, v16), (26, .int .i64 ((showV inf p).length : Int)), (27, .int .i64 (q.k : Int))]) (fun q wr => Ext w19 wr ∧ q.k ≤ (showV inf p).length ∧ wr.ownsRow w19.heap.size 55 6 q.v (keepTo (showV inf p) q.k).length ((keepTo (showV inf p) q.k).map vrC).flatten) (fun q => (showV inf p).length - q.k) ⟨0, .slice none 0 0⟩ [7, 8, 25, 26, 27] rfl ?_ (fun q wr hF => ?_)
    · exact ⟨Ext.refl _, Nat.zero_le _, World.ownsRow_nil _ _ _ _⟩
    obtain ⟨hE, hk, out⟩ := hF
    have hkl := keepTo_len (showV inf p) q.k
    refine EC.seq ?_
    -- region 7  locate.go:65
    refine EC.region (fun i => [1].getD i 0) [0] rfl ?_
    refine ER.sil rfl rfl rfl rfl (Sil.lss rfl rfl) ?_  -- 7.0: t28 := binOp
    refine ER.nil (fun w20 h20 => ?_)
    refine AQ.then ?_
    refine EC.seq ?_
    refine EC.cond rfl (fun hb1 => ?_) (fun hb1 => ?_)  -- cond 1: t28
    ·
      have hlt : q.k < (showV inf p).length := by have := of_decide_eq_true hb1; omega
      refine EC.skip ?_
      refine AQ.then ?_
      refine EC.seq ?_
      refine EC.block ?_
      refine EC.seq ?_
      -- region 8  locate.go:65
      refine EC.region (fun i => [1, 1, 0, 2, 1, 3].getD i 0) [0, 1, 2, 3, 4, 5] rfl ?_
      refine ER.sil rfl rfl rfl rfl (Sil.move rfl) ?_  -- 8.0: t29 := move
      refine ER.sil rfl rfl rfl rfl (Sil.indexR Try.underlying33 inf55 rfl rfl (hsh.isE (by omega)) (by omega) (by omega)) ?_  -- 8.1: t30 := indexAddr
      refine ER.ex rfl rfl rfl rfl (Exa.loadAgg (vs := (vrC (showV inf p)[q.k])) agg55 rfl ((hsh.at hlt).ext (hE.trans h20))) ?_  -- 8.2: t31 := load
      refine ER.st rfl rfl rfl rfl (fun w21 h21 => Stp.alloc inf55 (fun w22 h22 s22 r22 => ⟨h22, ?_⟩))  -- 8.3: t10 := alloc
      refine ER.sil rfl rfl rfl rfl (Sil.assign rfl) ?_  -- 8.4: t9 := assign
      refine ER.bar rfl rfl rfl rfl (fun w23 h23 => Stp.store (by kernel_rfl) rfl rfl (r22.ext h23) rfl rfl (fun w24 u24 r24 => ?_))  -- 8.5: tNone := store
      have e24 := ((h21.trans h22).trans h23).upd u24 h21.size
      refine ER.nil (fun w25 h25 => ?_)
      refine AQ.then ?_
      refine EC.seq ?_
      -- region 9  locate.go:66
      refine EC.region (fun i => [1, 1, 1, 1, 1, 0, 1].getD i 0) [0, 1, 2, 3, 4, 5, 6] rfl ?_
      refine ER.sil rfl rfl rfl rfl (Sil.move rfl) ?_  -- 9.0: t32 := move
      refine ER.sil rfl rfl rfl rfl (Sil.move rfl) ?_  -- 9.1: t33 := move
      refine ER.sil rfl rfl rfl rfl (Sil.add rfl rfl) ?_  -- 9.2: t34 := binOp
      rw [wrap_succ hlt hsh.max]
      refine ER.sil rfl rfl rfl rfl (Sil.sliceLR Try.underlying33 inf55 rfl rfl (hsh.isS) (by omega) (by omega)) ?_  -- 9.3: t35 := slice
      refine ER.sil rfl rfl rfl rfl (Sil.makeFunc rfl rfl) ?_  -- 9.4: t36 := makeFunc
      refine ER.ex rfl rfl rfl rfl (Exa.call fok36 rfl rfl (fun wx hx => (contains_vrC ((showV inf p).drop (q.k + 1)) (dropV 6 v16 (Int.toNat ((q.k + 1 : Nat) : Int))) _ [ptr w21.heap.size] (fun x => decide (x.name = (showV inf p)[q.k].name)) wx (LR.drop vrL (hsh.ext ((((hE.trans h20).trans e24).trans h25).trans hx)) hlt) fok37 (fun x wz hz => vars2_any x (showV inf p)[q.k] _ wz (((r24.ext h25)).ext (hx.trans hz)))))) ?_  -- 9.5: t37 := call
      refine ER.sil rfl rfl rfl rfl (Sil.not rfl) ?_  -- 9.6: t38 := unOp
      refine ER.nil (fun w26 h26 => ?_)
      refine AQ.then ?_
      refine EC.cond rfl (fun hb2 => ?_) (fun hb2 => ?_)  -- cond 2: t38
      ·
        have hno : hasN ((showV inf p).drop (q.k + 1)) (showV inf p)[q.k].name = false := by rw [Bool.not_eq_true'] at hb2; exact hb2
        have hnx : keepTo (showV inf p) (q.k + 1) = (keepTo (showV inf p) q.k) ++ [(showV inf p)[q.k]] := by rw [keepTo, dif_pos hlt, if_neg (by rw [hno]; exact Bool.false_ne_true)]
        -- region 10  locate.go:67
        refine EC.region (fun i => [1, 0, 2, 3, 1].getD i 0) [0, 1, 2, 3, 4] rfl ?_
        refine ER.sil rfl rfl rfl rfl (Sil.move rfl) ?_  -- 10.0: t39 := move
        refine ER.ex rfl rfl rfl rfl (Exa.loadAgg (vs := (vrC (showV inf p)[q.k])) agg55 rfl ((r24.ext (h25.trans h26)).at)) ?_  -- 10.1: t40 := load
        refine ER.st rfl rfl rfl rfl (fun w27 h27 => Stp.buildAll [_] Try.underlying33 inf55 rfl rfl rfl rfl rfl rfl (fun w28 h28 s28 r28 => ⟨h28, ?_⟩))  -- 10.2: t41 := buildSlice
        refine ER.bar rfl rfl rfl rfl (fun w29 h29 => ?_)  -- 10.3: t42 := call
        have o29 := (Ext.own out ((((((h20.trans e24).trans h25).trans h26).trans h27).trans h28).trans h29))
        refine Stp.append Try.underlying33 inf55 rfl (by decide) rfl rfl o29 ((((((((hE.trans h20).trans e24).trans h25).trans h26).trans h27).trans h28).trans h29).size) (Reads.of_row (r28.ext h29) rfl (by decide)) (by intro q hq; simp [catCells, Value.cells] at hq; exact vr1 _ q hq) (by first | omega | (simp only [List.length_append, List.length_cons, List.length_nil]; omega)) (by unfold maxLen; first | omega | (simp only [List.length_append, List.length_cons, List.length_nil]; omega)) (fun v30 w30 o30 g30 n30 => ?_)
        have e30 := (((((((hE.trans h20).trans e24).trans h25).trans h26).trans h27).trans h28).trans h29).grown g30 (fun k hk => Nat.le_trans (Nat.le_refl _) (o29.lt k hk).1)
        have z30 : w30.ownsRow w19.heap.size 55 6 v30 ((keepTo (showV inf p) q.k) ++ [(showV inf p)[q.k]]).length (((keepTo (showV inf p) q.k) ++ [(showV inf p)[q.k]]).map vrC).flatten := by rw [List.length_append, List.map_append, List.flatten_append]; exact o30
        refine ER.sil rfl rfl rfl rfl (Sil.assign rfl) ?_  -- 10.4: t8 := assign
        refine ER.nil (fun w31 h31 => ?_)
        refine AQ.blockNormal ?_
        refine AQ.then ?_
        -- region 11  locate.go:65
        refine EC.region (fun i => [1, 1].getD i 0) [0, 1] rfl ?_
        refine ER.sil rfl rfl rfl rfl (Sil.add rfl rfl) ?_  -- 11.0: t43 := binOp
        refine ER.sil rfl rfl rfl rfl (Sil.move rfl) ?_  -- 11.1: t27 := move
        refine ER.nil (fun w32 h32 => ?_)
        exact AQ.round ⟨q.k + 1, _⟩ [7, 8, 25, 26, 27] (by rw [← wrap_succ hlt hsh.max]; rfl) ⟨((e30.trans h31).trans h32), hlt, by simp only [hnx]; exact (Ext.own z30 (h31.trans h32))⟩ (by simp only; omega)
      ·
        have hno : hasN ((showV inf p).drop (q.k + 1)) (showV inf p)[q.k].name = true := by rw [Bool.not_eq_false'] at hb2; exact hb2
        have hnx : keepTo (showV inf p) (q.k + 1) = (keepTo (showV inf p) q.k) := by rw [keepTo, dif_pos hlt, if_pos hno]
        refine EC.skip ?_
        refine AQ.blockNormal ?_
        refine AQ.then ?_
        -- region 11  locate.go:65
        refine EC.region (fun i => [1, 1].getD i 0) [0, 1] rfl ?_
        refine ER.sil rfl rfl rfl rfl (Sil.add rfl rfl) ?_  -- 11.0: t43 := binOp
        refine ER.sil rfl rfl rfl rfl (Sil.move rfl) ?_  -- 11.1: t27 := move
        refine ER.nil (fun w33 h33 => ?_)
        exact AQ.round ⟨q.k + 1, q.v⟩ [7, 8, 25, 26, 27] (by rw [← wrap_succ hlt hsh.max]; rfl) ⟨(((((hE.trans h20).trans e24).trans h25).trans h26).trans h33), hlt, by simp only [hnx]; exact (Ext.own out ((((h20.trans e24).trans h25).trans h26).trans h33))⟩ (by simp only; omega)
    ·
      refine EC.exit ?_
      refine AQ.thenExit ?_
      refine AQ.thenExit ?_
      refine AQ.blockHit ?_
      refine AQ.then ?_
      refine EC.seq ?_
      -- region 12  locate.go:70
      refine EC.region (fun i => [1, 1].getD i 0) [0, 1] rfl ?_
      refine ER.sil rfl rfl rfl rfl (Sil.move rfl) ?_  -- 12.0: t44 := move
      refine ER.sil rfl rfl rfl rfl (Sil.assign rfl) ?_  -- 12.1: t4 := assign
      refine ER.nil (fun w34 h34 => ?_)
      refine AQ.then ?_
      refine EC.ret ?_
      refine AQ.ret1 Try.results13 rfl ?_
      have hge : q.k = (showV inf p).length := by have := of_decide_eq_false hb1; omega
      rw [hge, keepTo_all] at out
      refine ⟨_, rfl, hwL.trans ((hE.trans h20).trans h34), ?_⟩
      rw [varsS, if_pos hnb]
      exact LR.of_map vrL (Reads.of_own (Ext.own out (h20.trans h34)))

end Go.Proofs.Ytcgapppamhffjaa
