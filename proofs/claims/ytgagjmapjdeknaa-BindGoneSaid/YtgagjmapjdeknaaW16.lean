/- Bind: the reference's Offers, Find. -/
import Derived.Test.YtgagjmapjdeknaaW15
namespace Go.Proofs.Ytgagjmapjdeknaa
open Go.RowKit Go.XK Go.BindLaw

-- linchpin/linchpinref31.Offers: parameters ['api.Image', 'string', 'string'] (free 0), results [('ResultVar.tmp', 6)], 49 slots
set_option maxRecDepth 100000 in
theorem offR_any (ics : List Value) (y : Mo) (name want : ByteArray) (w : World) (hic : ImC w ics y.exports y.versions) (hvb : ∀ s, (univ y.versions s).length ≤ 1000) :
    Calls Try.prog 24 [.agg ics.toArray, .string name, .string want].toArray w fun e w' => e = .returned (.int .i64 (offI y name want)) ∧ Ext w w' := by
  obtain ⟨ev, vv, hev, hex, hvv, hvd⟩ := hic
  have hm := hex.max
  refine calls_of Try.func24 rfl Try.ntmps24 rfl ?_
  refine EC.seq ?_
  -- region 0  ref.go:62
  refine EC.region (fun i => [2, 1].getD i 0) [0, 1] rfl ?_
  refine ER.st rfl rfl rfl rfl (fun w1 h1 => Stp.box rfl (fun w2 h2 s2 r2 => ⟨h2, ?_⟩))  -- 0.0: t3 := box
  have n0 := h1.size
  refine ER.sil rfl rfl rfl rfl (Sil.assign rfl) ?_  -- 0.1: t6 := assign
  refine ER.nil (fun w3 h3 => ?_)
  refine AQ.then ?_
  refine EC.seq ?_
  refine EC.seq ?_
  -- region 1  ref.go:63
  refine EC.region (fun i => [1].getD i 0) [0] rfl ?_
  refine ER.sil rfl rfl rfl rfl (Sil.assign rfl) ?_  -- 1.0: t7 := assign
  refine ER.nil (fun w4 h4 => ?_)
  refine AQ.then ?_
  refine EC.block ?_
  refine EC.loop (σ := Nat) (fun k => [(1, .string name), (2, .string want), (3, ptr w1.heap.size), (7, .int .i64 (k : Int))]) (fun k wr => Ext w wr ∧ Row wr w1.heap.size 54 ics ∧ k ≤ y.exports.length ∧ ∀ j (h : j < y.exports.length), j < k → isOff y.versions name want y.exports[j] = false) (fun k => y.exports.length - k) 0 [1, 2, 3, 7] rfl ?_ (fun k wr hF => ?_)
  · exact ⟨(((h1.trans h2).trans h3).trans h4), (r2.ext (h3.trans h4)), Nat.zero_le _, fun j _ h => absurd h (Nat.not_lt_zero j)⟩
  obtain ⟨hE, q3, hk, hok⟩ := hF
  refine EC.seq ?_
  refine EC.seq ?_
  -- region 2  ref.go:63
  refine EC.region (fun i => [1, 1, 0, 1, 1].getD i 0) [0, 1, 2, 3, 4] rfl ?_
  refine ER.sil rfl rfl rfl rfl (Sil.move rfl) ?_  -- 2.0: t9 := move
  refine ER.sil rfl rfl rfl rfl (Sil.fieldAddr Try.underlying54 rfl inf39 rfl) ?_  -- 2.1: t10 := fieldAddr
  refine ER.ex rfl rfl rfl rfl (Exa.load flat39 rfl ((q3).cell hev)) ?_  -- 2.2: t11 := load
  refine ER.sil rfl rfl rfl rfl (Sil.lenR Try.underlying39 rfl (Exs.isS hex)) ?_  -- 2.3: t12 := call
  refine ER.sil rfl rfl rfl rfl (Sil.lss rfl rfl) ?_  -- 2.4: t13 := binOp
  refine ER.nil (fun w5 h5 => ?_)
  refine AQ.then ?_
  refine EC.cond rfl (fun hb0 => ?_) (fun hb0 => ?_)  -- cond 0: t13
  ·
    have hlt : k < y.exports.length := by have := of_decide_eq_true hb0; omega
    obtain ⟨cs, hcl, hat, hco⟩ := hex.elem hlt
    refine EC.skip ?_
    refine AQ.then ?_
    refine EC.seq ?_
    refine EC.block ?_
    refine EC.seq ?_
    -- region 4  ref.go:64
    refine EC.region (fun i => [1, 0, 1, 1, 0, 2, 3].getD i 0) [0, 1, 2, 3, 4, 5, 6] rfl ?_
    refine ER.sil rfl rfl rfl rfl (Sil.fieldAddr Try.underlying54 rfl inf39 rfl) ?_  -- 4.0: t16 := fieldAddr
    refine ER.ex rfl rfl rfl rfl (Exa.load flat39 rfl (((q3.ext h5)).cell hev)) ?_  -- 4.1: t17 := load
    refine ER.sil rfl rfl rfl rfl (Sil.move rfl) ?_  -- 4.2: t18 := move
    refine ER.sil rfl rfl rfl rfl (Sil.indexR Try.underlying39 inf62 rfl rfl (Exs.isE hex (by omega)) (by omega) (by omega)) ?_  -- 4.3: t19 := indexAddr
    refine ER.ex rfl rfl rfl rfl (Exa.loadAgg (vs := cs) (by rw [hcl]; exact agg62) rfl (hat.ext (hE.trans h5))) ?_  -- 4.4: t20 := load
    refine ER.st rfl rfl rfl rfl (fun w6 h6 => Stp.alloc inf62 (fun w7 h7 s7 r7 => ⟨h7, ?_⟩))  -- 4.5: t8 := alloc
    refine ER.bar rfl rfl rfl rfl (fun w8 h8 => Stp.store (ex_sz hcl) rfl rfl (r7.ext h8) (ag_len (by rw [hcl]; rfl)) (mo_one hco.one) (fun w9 u9 r9 => ?_))  -- 4.6: tNone := store
    have e9 := ((h6.trans h7).trans h8).upd u9 h6.size
    refine ER.nil (fun w10 h10 => ?_)
    refine AQ.then ?_
    refine EC.seq ?_
    refine EC.seq ?_
    -- region 5  ref.go:65
    refine EC.region (fun i => [1, 0, 1, 1].getD i 0) [0, 1, 2, 3] rfl ?_
    refine ER.sil rfl rfl rfl rfl (Sil.fieldAddr Try.underlying62 rfl inf9 rfl) ?_  -- 5.0: t21 := fieldAddr
    refine ER.ex rfl rfl rfl rfl (Exa.load flat9 rfl (((r9.ext h10)).cell hco.2.1)) ?_  -- 5.1: t22 := load
    refine ER.sil rfl rfl rfl rfl (Sil.move rfl) ?_  -- 5.2: t23 := move
    refine ER.sil rfl rfl rfl rfl (Sil.sneq rfl rfl) ?_  -- 5.3: t24 := binOp
    refine ER.nil (fun w11 h11 => ?_)
    refine AQ.then ?_
    refine EC.cond rfl (fun hb1 => ?_) (fun hb1 => ?_)  -- cond 1: t24
    ·
      have hno := isOff_ne (vd := y.versions) (want := want) (show y.exports[k].name ≠ name by simpa using hb1)
      refine EC.exit ?_
      refine AQ.thenExit ?_
      refine AQ.blockHit ?_
      refine AQ.then ?_
      -- region 3  ref.go:63
      refine EC.region (fun i => [1, 1, 1].getD i 0) [0, 1, 2] rfl ?_
      refine ER.sil rfl rfl rfl rfl (Sil.move rfl) ?_  -- 3.0: t14 := move
      refine ER.sil rfl rfl rfl rfl (Sil.add rfl rfl) ?_  -- 3.1: t15 := binOp
      refine ER.sil rfl rfl rfl rfl (Sil.assign rfl) ?_  -- 3.2: t7 := assign
      refine ER.nil (fun w12 h12 => ?_)
      exact AQ.round (k + 1) [1, 2, 3, 7] (by rw [← wrap_succ hlt hm]; rfl) ⟨(((((hE.trans h5).trans e9).trans h10).trans h11).trans h12), (q3.ext ((((h5.trans e9).trans h10).trans h11).trans h12)), hlt, (fun j h hj => by
        rcases Nat.lt_or_eq_of_le (Nat.le_of_lt_succ hj) with hj | rfl
        · exact hok j h hj
        · exact hno)⟩ (by omega)
    ·
      have hne : y.exports[k].name = name := by simpa using hb1
      refine EC.skip ?_
      refine AQ.then ?_
      refine EC.seq ?_
      -- region 6  ref.go:68
      refine EC.region (fun i => [1, 1, 1, 1, 0, 1, 1, 0, 1, 1, 1, 1, 1, 1, 1, 1, 0, 1, 0, 1, 0, 1, 1].getD i 0) [0, 1, 2, 3, 4, 5, 6, 7, 8, 9, 10, 11, 12, 13, 14, 15, 16, 17, 18, 19, 20, 21, 22] rfl ?_
      refine ER.sil rfl rfl rfl rfl (Sil.move rfl) ?_  -- 6.0: t25 := move
      refine ER.sil rfl rfl rfl rfl (Sil.seql rfl rfl) ?_  -- 6.1: t26 := binOp
      refine ER.sil rfl rfl rfl rfl (Sil.move rfl) ?_  -- 6.2: t27 := move
      refine ER.silG rfl rfl rfl rfl rfl rfl (fun hc => Sil.fieldAddr Try.underlying62 rfl inf4 rfl) ?_  -- 6.3: t28 := fieldAddr
      refine ER.exG rfl rfl rfl rfl rfl rfl (fun hc => Exa.load flat4 (congrArg some (sel_eq hc _)) (((r9.ext (h10.trans h11))).cell hco.2.2.2.1)) ?_  -- 6.4: t29 := load
      refine ER.silG rfl rfl rfl rfl rfl rfl (fun hc => Sil.move (congrArg some (sel_eq hc _))) ?_  -- 6.5: t30 := move
      refine ER.silGG rfl rfl rfl rfl rfl rfl (fun hp hc => Sil.fieldAddr Try.underlying62 rfl inf9 rfl) ?_  -- 6.6: t31 := fieldAddr
      refine ER.exGG rfl rfl rfl rfl rfl rfl (fun hp hc => Exa.load flat9 (congrArg some (sel_2 hp hc _)) (((r9.ext (h10.trans h11))).cell hco.2.2.1)) ?_  -- 6.7: t32 := load
      refine ER.silGG rfl rfl rfl rfl rfl rfl (fun hp hc => Sil.seql (congrArg some (sel_2 hp hc _)) rfl) ?_  -- 6.8: t33 := binOp
      refine ER.silG rfl rfl rfl rfl rfl rfl (fun hc => Sil.pickOr (congrArg some (sel_eq hc _)) rfl (congrArg some (sel_in hc _ _))) ?_  -- 6.9: t34 := pick
      refine ER.sil rfl rfl rfl rfl (Sil.pickAnd rfl rfl rfl) ?_  -- 6.10: t35 := pick
      refine ER.sil rfl rfl rfl rfl (Sil.move rfl) ?_  -- 6.11: t36 := move
      refine ER.silG rfl rfl rfl rfl rfl rfl (fun hc => Sil.move rfl) ?_  -- 6.12: t37 := move
      refine ER.silG rfl rfl rfl rfl rfl rfl (fun hc => Sil.sneq (congrArg some (sel_eq hc _)) rfl) ?_  -- 6.13: t38 := binOp
      refine ER.silG rfl rfl rfl rfl rfl rfl (fun hc => Sil.move (congrArg some (sel_eq hc _))) ?_  -- 6.14: t39 := move
      refine ER.silGG rfl rfl rfl rfl rfl rfl (fun hp hc => Sil.fieldAddr Try.underlying54 rfl inf43 rfl) ?_  -- 6.15: t40 := fieldAddr
      refine ER.exGG rfl rfl rfl rfl rfl rfl (fun hp hc => Exa.load flat43 (congrArg some (sel_2 hp hc _)) (((q3.ext (((h5.trans e9).trans h10).trans h11))).cell hvv)) ?_  -- 6.16: t41 := load
      refine ER.silGG rfl rfl rfl rfl rfl rfl (fun hp hc => Sil.fieldAddr Try.underlying62 rfl inf9 rfl) ?_  -- 6.17: t42 := fieldAddr
      refine ER.exGG rfl rfl rfl rfl rfl rfl (fun hp hc => Exa.load flat9 (congrArg some (sel_2 hp hc _)) (((r9.ext (h10.trans h11))).cell hco.2.2.1)) ?_  -- 6.18: t43 := load
      refine ER.silGG rfl rfl rfl rfl rfl rfl (fun hp hc => Sil.move rfl) ?_  -- 6.19: t44 := move
      refine ER.exGG rfl rfl rfl rfl rfl rfl (fun hp hc => Exa.call fok30 rfl (evs_cons (congrArg some (sel_2 hp hc _)) (evs_cons (congrArg some (sel_2 hp hc _)) (evs_cons (congrArg some (sel_2 hp hc _)) evs_nil))) (fun wx hx => (serves08_any y.versions vv y.exports[k].version want wx (hvd.ext (((((hE.trans h5).trans e9).trans h10).trans h11).trans hx)) (hvb _)))) ?_  -- 6.20: t45 := call
      refine ER.silG rfl rfl rfl rfl rfl rfl (fun hc => Sil.pickAnd (congrArg some (sel_eq hc _)) (congrArg some (sel_in hc _ _)) rfl) ?_  -- 6.21: t46 := pick
      refine ER.sil rfl rfl rfl rfl (Sil.pickOr rfl rfl rfl) ?_  -- 6.22: t47 := pick
      refine ER.nil (fun w13 h13 => ?_)
      refine AQ.then ?_
      refine EC.cond rfl (fun hb2 => ?_) (fun hb2 => ?_)  -- cond 2: t47
      ·
        have hyes : isOff y.versions name want y.exports[k] = true := by rw [isOff_eq hne, fits2]; exact hb2
        refine EC.seq ?_
        -- region 7  ref.go:69
        refine EC.region (fun i => [1, 1].getD i 0) [0, 1] rfl ?_
        refine ER.sil rfl rfl rfl rfl (Sil.move rfl) ?_  -- 7.0: t48 := move
        refine ER.sil rfl rfl rfl rfl (Sil.assign rfl) ?_  -- 7.1: t6 := assign
        refine ER.nil (fun w14 h14 => ?_)
        refine AQ.then ?_
        refine EC.ret ?_
        refine AQ.blockRet ?_
        refine AQ.thenRet ?_
        refine AQ.thenRet ?_
        refine AQ.blockRet ?_
        refine AQ.thenRet ?_
        refine AQ.ret1 Try.results24 rfl ?_
        exact ⟨by rw [offI, offX_hit hlt hyes hok], ((((((hE.trans h5).trans e9).trans h10).trans h11).trans h13).trans h14)⟩
      ·
        have hno : isOff y.versions name want y.exports[k] = false := by rw [isOff_eq hne, fits2]; exact hb2
        refine EC.skip ?_
        refine AQ.blockNormal ?_
        refine AQ.then ?_
        -- region 3  ref.go:63
        refine EC.region (fun i => [1, 1, 1].getD i 0) [0, 1, 2] rfl ?_
        refine ER.sil rfl rfl rfl rfl (Sil.move rfl) ?_  -- 3.0: t14 := move
        refine ER.sil rfl rfl rfl rfl (Sil.add rfl rfl) ?_  -- 3.1: t15 := binOp
        refine ER.sil rfl rfl rfl rfl (Sil.assign rfl) ?_  -- 3.2: t7 := assign
        refine ER.nil (fun w15 h15 => ?_)
        exact AQ.round (k + 1) [1, 2, 3, 7] (by rw [← wrap_succ hlt hm]; rfl) ⟨((((((hE.trans h5).trans e9).trans h10).trans h11).trans h13).trans h15), (q3.ext (((((h5.trans e9).trans h10).trans h11).trans h13).trans h15)), hlt, (fun j h hj => by
          rcases Nat.lt_or_eq_of_le (Nat.le_of_lt_succ hj) with hj | rfl
          · exact hok j h hj
          · exact hno)⟩ (by omega)
  ·
    refine EC.exit ?_
    refine AQ.thenExit ?_
    refine AQ.thenExit ?_
    refine AQ.blockHit ?_
    refine AQ.then ?_
    refine EC.seq ?_
    -- region 8  ref.go:72
    refine EC.region (fun i => [1].getD i 0) [0] rfl ?_
    refine ER.sil rfl rfl rfl rfl (Sil.assign rfl) ?_  -- 8.0: t6 := assign
    refine ER.nil (fun w16 h16 => ?_)
    refine AQ.then ?_
    refine EC.ret ?_
    refine AQ.ret1 Try.results24 rfl ?_
    have hge : k = y.exports.length := by have := of_decide_eq_false hb0; omega
    subst hge
    exact ⟨by rw [offI, offX_miss fun j h => hok j h h], ((hE.trans h5).trans h16)⟩

-- linchpin/linchpinref31.Find: parameters ['[]api.Module', 'int', 'string', 'string'] (free 0), results [('ResultVar.tmp', 8), ('ResultVar.tmp', 9), ('ResultVar.tmp', 10)], 41 slots
set_option maxRecDepth 100000 in
theorem findR_any (ms : List Mo) (v : Value) (m : Int) (name want : ByteArray) (w : World) (hms : Mods w v ms) (hm8 : ms.length ≤ 1000) (hvb : ∀ x, InR ms x → ∀ s, (univ (moAt ms x).versions s).length ≤ 1000) :
    Calls Try.prog 11 [v, .int .i64 m, .string name, .string want].toArray w fun e w' => e = .returned (.tuple #[.int .i64 (fMod ms (scopeL ms m) name want), .int .i64 (fExp ms (scopeL ms m) name want), .bool (fOk ms (scopeL ms m) name want)]) ∧ Ext w w' := by
  have hlen := scopeL_len ms m
  refine calls_of Try.func11 rfl Try.ntmps11 rfl ?_
  refine EC.seq ?_
  -- region 0  ref.go:76
  refine EC.region (fun i => [1, 1, 1].getD i 0) [0, 1, 2] rfl ?_
  refine ER.sil rfl rfl rfl rfl (Sil.assign rfl) ?_  -- 0.0: t8 := assign
  refine ER.sil rfl rfl rfl rfl (Sil.assign rfl) ?_  -- 0.1: t9 := assign
  refine ER.sil rfl rfl rfl rfl (Sil.assign rfl) ?_  -- 0.2: t10 := assign
  refine ER.nil (fun w1 h1 => ?_)
  refine AQ.then ?_
  refine EC.seq ?_
  -- region 1  ref.go:77
  refine EC.region (fun i => [1, 1, 2, 1].getD i 0) [0, 1, 2, 3] rfl ?_
  refine ER.sil rfl rfl rfl rfl (Sil.move rfl) ?_  -- 1.0: t14 := move
  refine ER.sil rfl rfl rfl rfl (Sil.move rfl) ?_  -- 1.1: t15 := move
  refine ER.st rfl rfl rfl rfl (fun w2 h2 => Stp.call fok14 rfl rfl (Calls.mono ((scopR_any ms v m w2 (hms.ext (h1.trans h2)) hm8)) ?_))  -- 1.2: t16 := call
  rintro _ w3 ⟨v3, rfl, h3, hl3⟩
  refine ⟨v3, rfl, h3, ?_⟩
  refine ER.sil rfl rfl rfl rfl (Sil.assign rfl) ?_  -- 1.3: t11 := assign
  refine ER.nil (fun w4 h4 => ?_)
  refine AQ.then ?_
  refine EC.seq ?_
  refine EC.seq ?_
  -- region 2  ref.go:78
  refine EC.region (fun i => [1].getD i 0) [0] rfl ?_
  refine ER.sil rfl rfl rfl rfl (Sil.assign rfl) ?_  -- 2.0: t12 := assign
  refine ER.nil (fun w5 h5 => ?_)
  refine AQ.then ?_
  refine EC.block ?_
  refine EC.loop (σ := CloV) (fun q => [(0, v), (2, .string name), (3, .string want), (11, v3), (12, .int .i64 (q.i : Int))]) (fun q wr => Ext w wr ∧ Ints wr v3 (scopeL ms m) ∧ q.i ≤ (scopeL ms m).length ∧ ∀ j (h : j < (scopeL ms m).length), j < q.i → isHit ms name want (scopeL ms m)[j] = false) (fun q => (scopeL ms m).length - q.i) ⟨0, v3⟩ [0, 2, 3, 11, 12] rfl ?_ (fun q wr hF => ?_)
  · exact ⟨((((h1.trans h2).trans h3).trans h4).trans h5), (hl3.ext (h4.trans h5)), Nat.zero_le _, fun j _ h => absurd h (Nat.not_lt_zero j)⟩
  obtain ⟨hE, hl, hk, hno⟩ := hF
  have hlm := hl.max
  refine EC.seq ?_
  refine EC.seq ?_
  -- region 3  ref.go:78
  refine EC.region (fun i => [1, 1, 1, 1].getD i 0) [0, 1, 2, 3] rfl ?_
  refine ER.sil rfl rfl rfl rfl (Sil.move rfl) ?_  -- 3.0: t17 := move
  refine ER.sil rfl rfl rfl rfl (Sil.move rfl) ?_  -- 3.1: t18 := move
  refine ER.sil rfl rfl rfl rfl (Sil.lenR Try.underlying28 rfl (Ints.isS hl)) ?_  -- 3.2: t19 := call
  refine ER.sil rfl rfl rfl rfl (Sil.lss rfl rfl) ?_  -- 3.3: t20 := binOp
  refine ER.nil (fun w6 h6 => ?_)
  refine AQ.then ?_
  refine EC.cond rfl (fun hb0 => ?_) (fun hb0 => ?_)  -- cond 0: t20
  ·
    have hlt : q.i < (scopeL ms m).length := by have := of_decide_eq_true hb0; omega
    have hin : InR ms (scopeL ms m)[q.i] := scopeL_in _ (List.getElem_mem hlt)
    have hcg : (scopeL ms m).getD q.i 0 = (scopeL ms m)[q.i] := by simp [hlt]
    obtain ⟨ics, hicl, hiat, himc, hione⟩ := hms.image hin
    refine EC.skip ?_
    refine AQ.then ?_
    refine EC.seq ?_
    refine EC.block ?_
    refine EC.seq ?_
    -- region 5  ref.go:79
    refine EC.region (fun i => [1, 1, 1, 1, 0, 1, 1, 0, 1, 1, 0, 1].getD i 0) [0, 1, 2, 3, 4, 5, 6, 7, 8, 9, 10, 11] rfl ?_
    refine ER.sil rfl rfl rfl rfl (Sil.move rfl) ?_  -- 5.0: t23 := move
    refine ER.sil rfl rfl rfl rfl (Sil.move rfl) ?_  -- 5.1: t24 := move
    refine ER.sil rfl rfl rfl rfl (Sil.move rfl) ?_  -- 5.2: t25 := move
    refine ER.sil rfl rfl rfl rfl (Sil.indexR Try.underlying28 inf3 rfl rfl (Ints.isE hl (by omega)) (by omega) (by omega)) ?_  -- 5.3: t26 := indexAddr
    refine ER.ex rfl rfl rfl rfl (Exa.load flat3 rfl (Ints.cell (hl.ext h6) hlt)) ?_  -- 5.4: t27 := load
    refine ER.sil rfl rfl rfl rfl (Sil.indexR Try.underlying22 inf56 rfl rfl (Mods.isE hms (by have := hin.1; have := hin.2; omega)) (hin.1) (hin.2)) ?_  -- 5.5: t28 := indexAddr
    refine ER.sil rfl rfl rfl rfl (Sil.fieldAddr Try.underlying56 rfl inf54 rfl) ?_  -- 5.6: t29 := fieldAddr
    refine ER.ex rfl rfl rfl rfl (Exa.loadAgg (vs := ics) (by rw [hicl]; exact agg54) rfl (hiat.ext (hE.trans h6))) ?_  -- 5.7: t30 := load
    refine ER.sil rfl rfl rfl rfl (Sil.move rfl) ?_  -- 5.8: t31 := move
    refine ER.sil rfl rfl rfl rfl (Sil.move rfl) ?_  -- 5.9: t32 := move
    refine ER.ex rfl rfl rfl rfl (Exa.call fok24 rfl rfl (fun wx hx => (offR_any ics (moAt ms (scopeL ms m)[q.i]) name want wx (himc.ext ((hE.trans h6).trans hx)) (hvb _ hin)))) ?_  -- 5.10: t33 := call
    refine ER.sil rfl rfl rfl rfl (Sil.assign rfl) ?_  -- 5.11: t13 := assign
    refine ER.nil (fun w7 h7 => ?_)
    refine AQ.then ?_
    refine EC.seq ?_
    -- region 6  ref.go:80
    refine EC.region (fun i => [1, 1].getD i 0) [0, 1] rfl ?_
    refine ER.sil rfl rfl rfl rfl (Sil.move rfl) ?_  -- 6.0: t34 := move
    refine ER.sil rfl rfl rfl rfl (Sil.geq rfl rfl) ?_  -- 6.1: t35 := binOp
    refine ER.nil (fun w8 h8 => ?_)
    refine AQ.then ?_
    refine EC.cond rfl (fun hb1 => ?_) (fun hb1 => ?_)  -- cond 1: t35
    ·
      obtain ⟨ho1, ho2⟩ := offI_pos (of_decide_eq_true hb1)
      rw [← hcg] at ho1 ho2
      refine EC.seq ?_
      -- region 7  ref.go:81
      refine EC.region (fun i => [1, 1, 1, 0, 1, 1, 1, 1].getD i 0) [0, 1, 2, 3, 4, 5, 6, 7] rfl ?_
      refine ER.sil rfl rfl rfl rfl (Sil.move rfl) ?_  -- 7.0: t36 := move
      refine ER.sil rfl rfl rfl rfl (Sil.move rfl) ?_  -- 7.1: t37 := move
      refine ER.sil rfl rfl rfl rfl (Sil.indexR Try.underlying28 inf3 rfl rfl (Ints.isE hl (by omega)) (by omega) (by omega)) ?_  -- 7.2: t38 := indexAddr
      refine ER.ex rfl rfl rfl rfl (Exa.load flat3 rfl (Ints.cell (hl.ext ((h6.trans h7).trans h8)) hlt)) ?_  -- 7.3: t39 := load
      refine ER.sil rfl rfl rfl rfl (Sil.move rfl) ?_  -- 7.4: t40 := move
      refine ER.sil rfl rfl rfl rfl (Sil.assign rfl) ?_  -- 7.5: t8 := assign
      refine ER.sil rfl rfl rfl rfl (Sil.assign rfl) ?_  -- 7.6: t9 := assign
      refine ER.sil rfl rfl rfl rfl (Sil.assign rfl) ?_  -- 7.7: t10 := assign
      refine ER.nil (fun w9 h9 => ?_)
      refine AQ.then ?_
      refine EC.ret ?_
      refine AQ.blockRet ?_
      refine AQ.thenRet ?_
      refine AQ.thenRet ?_
      refine AQ.blockRet ?_
      refine AQ.thenRet ?_
      refine AQ.ret3 Try.results11 rfl rfl rfl ?_
      obtain ⟨e1, e2, e3, _⟩ := f_hit hlt ho1 hno
      exact ⟨by rw [e1, e2, e3, ← ho2, hcg], ((((hE.trans h6).trans h7).trans h8).trans h9)⟩
    ·
      have ho1 := offI_neg (of_decide_eq_false hb1)
      rw [← hcg] at ho1
      refine EC.skip ?_
      refine AQ.blockNormal ?_
      refine AQ.then ?_
      -- region 4  ref.go:78
      refine EC.region (fun i => [1, 1, 1].getD i 0) [0, 1, 2] rfl ?_
      refine ER.sil rfl rfl rfl rfl (Sil.move rfl) ?_  -- 4.0: t21 := move
      refine ER.sil rfl rfl rfl rfl (Sil.add rfl rfl) ?_  -- 4.1: t22 := binOp
      refine ER.sil rfl rfl rfl rfl (Sil.assign rfl) ?_  -- 4.2: t12 := assign
      refine ER.nil (fun w10 h10 => ?_)
      exact AQ.round ⟨q.i + 1, v3⟩ [0, 2, 3, 11, 12] (by rw [← wrap_succ hlt hlm]; rfl) ⟨((((hE.trans h6).trans h7).trans h8).trans h10), (hl.ext (((h6.trans h7).trans h8).trans h10)), hlt, noHit_next hlt ho1 hno⟩ (by simp only; omega)
  ·
    refine EC.exit ?_
    refine AQ.thenExit ?_
    refine AQ.thenExit ?_
    refine AQ.blockHit ?_
    refine AQ.then ?_
    refine EC.seq ?_
    -- region 8  ref.go:84
    refine EC.region (fun i => [1, 1, 1].getD i 0) [0, 1, 2] rfl ?_
    refine ER.sil rfl rfl rfl rfl (Sil.assign rfl) ?_  -- 8.0: t8 := assign
    refine ER.sil rfl rfl rfl rfl (Sil.assign rfl) ?_  -- 8.1: t9 := assign
    refine ER.sil rfl rfl rfl rfl (Sil.assign rfl) ?_  -- 8.2: t10 := assign
    refine ER.nil (fun w11 h11 => ?_)
    refine AQ.then ?_
    refine EC.ret ?_
    refine AQ.ret3 Try.results11 rfl rfl rfl ?_
    have hge : q.i = (scopeL ms m).length := by have := of_decide_eq_false hb0; omega
    obtain ⟨e1, e2, e3, _⟩ := f_miss fun j h => hno j h (by omega)
    exact ⟨by rw [e1, e2, e3], ((hE.trans h6).trans h11)⟩

end Go.Proofs.Ytgagjmapjdeknaa
