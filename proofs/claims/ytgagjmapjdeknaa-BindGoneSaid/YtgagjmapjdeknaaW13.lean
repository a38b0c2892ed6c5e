/- Bind: addresses. -/
import Derived.Test.YtgagjmapjdeknaaW12
namespace Go.Proofs.Ytgagjmapjdeknaa
open Go.RowKit Go.XK Go.BindLaw

-- linchpin/bind.Address: parameters ['[]api.Module', 'int', 'int'] (free 0), results [('ResultVar.tmp', 6)], 46 slots
set_option maxRecDepth 100000 in
theorem Address_any (ms : List Mo) (v : Value) (m x : Int) (w : World) (hms : Mods w v ms) :
    Calls Try.prog 15 [v, .int .i64 m, .int .i64 x].toArray w fun e w' => e = .returned (.int .i64 (addrX ms m x)) ∧ Ext w w' := by
  refine calls_of Try.func15 rfl Try.ntmps15 rfl ?_
  refine EC.seq ?_
  -- region 0  bind.go:119
  refine EC.region (fun i => [1].getD i 0) [0] rfl ?_
  refine ER.sil rfl rfl rfl rfl (Sil.assign rfl) ?_  -- 0.0: t6 := assign
  refine ER.nil (fun w1 h1 => ?_)
  refine AQ.then ?_
  refine EC.seq ?_
  refine EC.seq ?_
  cases hsp1 : ((decide (m < 0) || decide ((ms.length : Int) ≤ m)) || decide (x < 0))
  ·
    -- region 1  bind.go:120
    refine EC.region (fun i => [1, 1, 1, 1, 1, 1, 1, 1, 1, 1, 1, 1, 1, 1, 1, 1, 1, 1, 1, 0, 1, 1, 1].getD i 0) [0, 1, 2, 3, 4, 5, 6, 7, 8, 9, 10, 11, 12, 13, 14, 15, 16, 17, 18, 19, 20, 21, 22] rfl ?_
    refine ER.sil rfl rfl rfl rfl (Sil.move rfl) ?_  -- 1.0: t7 := move
    refine ER.sil rfl rfl rfl rfl (Sil.lss rfl rfl) ?_  -- 1.1: t8 := binOp
    refine ER.sil rfl rfl rfl rfl (Sil.move rfl) ?_  -- 1.2: t9 := move
    refine ER.silG rfl rfl rfl rfl rfl rfl (fun hc => Sil.move rfl) ?_  -- 1.3: t10 := move
    refine ER.silG rfl rfl rfl rfl rfl rfl (fun hc => Sil.move rfl) ?_  -- 1.4: t11 := move
    refine ER.silG rfl rfl rfl rfl rfl rfl (fun hc => Sil.lenR Try.underlying22 (congrArg some (sel_eq hc _)) (Mods.isS hms)) ?_  -- 1.5: t12 := call
    refine ER.silG rfl rfl rfl rfl rfl rfl (fun hc => Sil.geq (congrArg some (sel_eq hc _)) (congrArg some (sel_eq hc _))) ?_  -- 1.6: t13 := binOp
    refine ER.sil rfl rfl rfl rfl (Sil.pickOr rfl rfl rfl) ?_  -- 1.7: t14 := pick
    refine ER.sil rfl rfl rfl rfl (Sil.move rfl) ?_  -- 1.8: t15 := move
    refine ER.silG rfl rfl rfl rfl rfl rfl (fun hc => Sil.move rfl) ?_  -- 1.9: t16 := move
    refine ER.silG rfl rfl rfl rfl rfl rfl (fun hc => Sil.lss (congrArg some (sel_eq hc _)) rfl) ?_  -- 1.10: t17 := binOp
    refine ER.sil rfl rfl rfl rfl (Sil.pickOr rfl rfl rfl) ?_  -- 1.11: t18 := pick
    refine ER.sil rfl rfl rfl rfl (Sil.move rfl) ?_  -- 1.12: t19 := move
    have hin : InR ms m := by unfold InR; simp at hsp1; omega
    have h0x : 0 ≤ x := by simp at hsp1; omega
    obtain ⟨ics, hicl, hiat, himc, hione⟩ := hms.image hin
    obtain ⟨ev, vv, hev, hex, _, _⟩ := himc
    refine ER.silD rfl rfl rfl rfl (by rw [hsp1]; rfl) rfl rfl (Sil.move rfl) ?_  -- 1.13: t20 := move
    refine ER.silD rfl rfl rfl rfl (by rw [hsp1]; rfl) rfl rfl (Sil.move rfl) ?_  -- 1.14: t21 := move
    refine ER.silD rfl rfl rfl rfl (by rw [hsp1]; rfl) rfl rfl (Sil.move rfl) ?_  -- 1.15: t22 := move
    refine ER.silD rfl rfl rfl rfl (by rw [hsp1]; rfl) rfl rfl (Sil.indexR Try.underlying22 inf56 rfl rfl (Mods.isE hms (by have := hin.1; have := hin.2; omega)) (hin.1) (hin.2)) ?_  -- 1.16: t23 := indexAddr
    refine ER.silD rfl rfl rfl rfl (by rw [hsp1]; rfl) rfl rfl (Sil.fieldAddr Try.underlying56 rfl inf54 rfl) ?_  -- 1.17: t24 := fieldAddr
    refine ER.silD rfl rfl rfl rfl (by rw [hsp1]; rfl) rfl rfl (Sil.fieldAddr Try.underlying54 rfl inf39 rfl) ?_  -- 1.18: t25 := fieldAddr
    refine ER.exD rfl rfl rfl rfl (by rw [hsp1]; rfl) rfl rfl (Exa.load flat39 rfl (cell_ext h1 (hiat _ _ hev))) ?_  -- 1.19: t26 := load
    refine ER.silD rfl rfl rfl rfl (by rw [hsp1]; rfl) rfl rfl (Sil.lenR Try.underlying39 rfl (Exs.isS hex)) ?_  -- 1.20: t27 := call
    refine ER.silD rfl rfl rfl rfl (by rw [hsp1]; rfl) rfl rfl (Sil.geq rfl rfl) ?_  -- 1.21: t28 := binOp
    refine ER.sil rfl rfl rfl rfl (Sil.pick rfl rfl rfl) ?_  -- 1.22: t29 := pick
    rw [hsp1]
    refine ER.nil (fun w2 h2 => ?_)
    refine AQ.then ?_
    refine EC.cond rfl (fun hb0 => ?_) (fun hb0 => ?_)  -- cond 0: t29
    ·
      have hxl : (moAt ms m).exports.length ≤ x.toNat := by have := of_decide_eq_true hb0; omega
      refine EC.seq ?_
      -- region 2  bind.go:121
      refine EC.region (fun i => [1].getD i 0) [0] rfl ?_
      refine ER.sil rfl rfl rfl rfl (Sil.assign rfl) ?_  -- 2.0: t6 := assign
      refine ER.nil (fun w3 h3 => ?_)
      refine AQ.then ?_
      refine EC.ret ?_
      refine AQ.thenRet ?_
      refine AQ.ret1 Try.results15 rfl ?_
      exact ⟨by rw [addrX, if_pos hin, List.getElem?_eq_none hxl], ((h1.trans h2).trans h3)⟩
    ·
      have hxl : x < (moAt ms m).exports.length := by have := of_decide_eq_false hb0; omega
      have hxn : x.toNat < (moAt ms m).exports.length := by omega
      obtain ⟨cs, hcl, hat, hco⟩ := hex.elem hxn
      refine EC.skip ?_
      refine AQ.then ?_
      refine EC.seq ?_
      -- region 3  bind.go:123
      refine EC.draw (fun i => [1, 1, 1, 1, 0, 1, 1, 1, 1, 1, 0, 1, 1, 1, 0, 1, 1].getD i 0) [0, 1, 2, 3, 4, 5, 6, 7, 8, 9, 10, 11, 12, 13, 14, 15, 16] (by kernel_rfl) (by kernel_rfl) ?_
      refine ER.sil rfl rfl rfl rfl (Sil.move rfl) ?_  -- 3.0: t30 := move
      refine ER.sil rfl rfl rfl rfl (Sil.move rfl) ?_  -- 3.1: t31 := move
      refine ER.sil rfl rfl rfl rfl (Sil.indexR Try.underlying22 inf56 rfl rfl (Mods.isE hms (by have := hin.1; have := hin.2; omega)) (hin.1) (hin.2)) ?_  -- 3.2: t32 := indexAddr
      refine ER.sil rfl rfl rfl rfl (Sil.fieldAddr Try.underlying56 rfl inf3 rfl) ?_  -- 3.3: t33 := fieldAddr
      refine ER.ex rfl rfl rfl rfl (Exa.load flat3 rfl (Mods.base (hms.ext (h1.trans h2)) hin)) ?_  -- 3.4: t34 := load
      refine ER.sil rfl rfl rfl rfl (Sil.move rfl) ?_  -- 3.5: t35 := move
      refine ER.sil rfl rfl rfl rfl (Sil.move rfl) ?_  -- 3.6: t36 := move
      refine ER.sil rfl rfl rfl rfl (Sil.indexR Try.underlying22 inf56 rfl rfl (Mods.isE hms (by have := hin.1; have := hin.2; omega)) (hin.1) (hin.2)) ?_  -- 3.7: t37 := indexAddr
      refine ER.sil rfl rfl rfl rfl (Sil.fieldAddr Try.underlying56 rfl inf54 rfl) ?_  -- 3.8: t38 := fieldAddr
      refine ER.sil rfl rfl rfl rfl (Sil.fieldAddr Try.underlying54 rfl inf39 rfl) ?_  -- 3.9: t39 := fieldAddr
      refine ER.ex rfl rfl rfl rfl (Exa.load flat39 rfl (cell_ext (h1.trans h2) (hiat _ _ hev))) ?_  -- 3.10: t40 := load
      refine ER.sil rfl rfl rfl rfl (Sil.move rfl) ?_  -- 3.11: t41 := move
      refine ER.sil rfl rfl rfl rfl (Sil.indexR Try.underlying39 inf62 rfl rfl (Exs.isE hex (by omega)) (h0x) (hxl)) ?_  -- 3.12: t42 := indexAddr
      refine ER.sil rfl rfl rfl rfl (Sil.fieldAddr Try.underlying62 rfl inf3 rfl) ?_  -- 3.13: t43 := fieldAddr
      refine ER.ex rfl rfl rfl rfl (Exa.load flat3 rfl (cell_ext (h1.trans h2) (hat _ _ hco.2.2.2.2.1))) ?_  -- 3.14: t44 := load
      refine ER.sil rfl rfl rfl rfl (Sil.add rfl rfl) ?_  -- 3.15: t45 := binOp
      refine ER.sil rfl rfl rfl rfl (Sil.assign rfl) ?_  -- 3.16: t6 := assign
      refine ER.nil (fun w4 h4 => ?_)
      refine AQ.then ?_
      refine EC.ret ?_
      refine AQ.ret1 Try.results15 rfl ?_
      exact ⟨by rw [addrX, if_pos hin, List.getElem?_eq_getElem hxn]; simp only [if_pos h0x], ((h1.trans h2).trans h4)⟩
  ·
    -- region 1  bind.go:120
    refine EC.region (fun i => [1, 1, 1, 1, 1, 1, 1, 1, 1, 1, 1, 1, 1, 1, 1, 1, 1, 1, 1, 0, 1, 1, 1].getD i 0) [0, 1, 2, 3, 4, 5, 6, 7, 8, 9, 10, 11, 12, 13, 14, 15, 16, 17, 18, 19, 20, 21, 22] rfl ?_
    refine ER.sil rfl rfl rfl rfl (Sil.move rfl) ?_  -- 1.0: t7 := move
    refine ER.sil rfl rfl rfl rfl (Sil.lss rfl rfl) ?_  -- 1.1: t8 := binOp
    refine ER.sil rfl rfl rfl rfl (Sil.move rfl) ?_  -- 1.2: t9 := move
    refine ER.silG rfl rfl rfl rfl rfl rfl (fun hc => Sil.move rfl) ?_  -- 1.3: t10 := move
    refine ER.silG rfl rfl rfl rfl rfl rfl (fun hc => Sil.move rfl) ?_  -- 1.4: t11 := move
    refine ER.silG rfl rfl rfl rfl rfl rfl (fun hc => Sil.lenR Try.underlying22 (congrArg some (sel_eq hc _)) (Mods.isS hms)) ?_  -- 1.5: t12 := call
    refine ER.silG rfl rfl rfl rfl rfl rfl (fun hc => Sil.geq (congrArg some (sel_eq hc _)) (congrArg some (sel_eq hc _))) ?_  -- 1.6: t13 := binOp
    refine ER.sil rfl rfl rfl rfl (Sil.pickOr rfl rfl rfl) ?_  -- 1.7: t14 := pick
    refine ER.sil rfl rfl rfl rfl (Sil.move rfl) ?_  -- 1.8: t15 := move
    refine ER.silG rfl rfl rfl rfl rfl rfl (fun hc => Sil.move rfl) ?_  -- 1.9: t16 := move
    refine ER.silG rfl rfl rfl rfl rfl rfl (fun hc => Sil.lss (congrArg some (sel_eq hc _)) rfl) ?_  -- 1.10: t17 := binOp
    refine ER.sil rfl rfl rfl rfl (Sil.pickOr rfl rfl rfl) ?_  -- 1.11: t18 := pick
    refine ER.sil rfl rfl rfl rfl (Sil.move rfl) ?_  -- 1.12: t19 := move
    refine ER.skipG rfl rfl rfl rfl (by rw [hsp1]; rfl) rfl ?_  -- 1.13
    refine ER.skipG rfl rfl rfl rfl (by rw [hsp1]; rfl) rfl ?_  -- 1.14
    refine ER.skipG rfl rfl rfl rfl (by rw [hsp1]; rfl) rfl ?_  -- 1.15
    refine ER.skipG rfl rfl rfl rfl (by rw [hsp1]; rfl) rfl ?_  -- 1.16
    refine ER.skipG rfl rfl rfl rfl (by rw [hsp1]; rfl) rfl ?_  -- 1.17
    refine ER.skipG rfl rfl rfl rfl (by rw [hsp1]; rfl) rfl ?_  -- 1.18
    refine ER.skipG rfl rfl rfl rfl (by rw [hsp1]; rfl) rfl ?_  -- 1.19
    refine ER.skipG rfl rfl rfl rfl (by rw [hsp1]; rfl) rfl ?_  -- 1.20
    refine ER.skipG rfl rfl rfl rfl (by rw [hsp1]; rfl) rfl ?_  -- 1.21
    refine ER.sil rfl rfl rfl rfl (Sil.pick rfl rfl rfl) ?_  -- 1.22: t29 := pick
    rw [hsp1]
    refine ER.nil (fun w5 h5 => ?_)
    refine AQ.then ?_
    refine EC.cond rfl (fun hb1 => ?_) (fun hb1 => ?_)  -- cond 1: t29
    ·
      refine EC.seq ?_
      -- region 2  bind.go:121
      refine EC.region (fun i => [1].getD i 0) [0] rfl ?_
      refine ER.sil rfl rfl rfl rfl (Sil.assign rfl) ?_  -- 2.0: t6 := assign
      refine ER.nil (fun w6 h6 => ?_)
      refine AQ.then ?_
      refine EC.ret ?_
      refine AQ.thenRet ?_
      refine AQ.ret1 Try.results15 rfl ?_
      refine ⟨?_, ((h1.trans h5).trans h6)⟩
      have hz : addrX ms m x = 0 := by
        unfold addrX
        split
        · rename_i hin
          have : ¬ 0 ≤ x := by have h1 := hin.1; have h2 := hin.2; simp at hsp1; omega
          split
          · rw [if_neg this]
          · rfl
        · rfl
      rw [hz]
    ·
      cases hb1

-- linchpin/linchpinref31.Address: parameters ['[]api.Module', 'int', 'int'] (free 0), results [('ResultVar.tmp', 6)], 46 slots
set_option maxRecDepth 100000 in
theorem AddressR_any (ms : List Mo) (v : Value) (m x : Int) (w : World) (hms : Mods w v ms) :
    Calls Try.prog 16 [v, .int .i64 m, .int .i64 x].toArray w fun e w' => e = .returned (.int .i64 (addrX ms m x)) ∧ Ext w w' := by
  refine calls_of Try.func16 rfl Try.ntmps16 rfl ?_
  refine EC.seq ?_
  -- region 0  ref.go:88
  refine EC.region (fun i => [1].getD i 0) [0] rfl ?_
  refine ER.sil rfl rfl rfl rfl (Sil.assign rfl) ?_  -- 0.0: t6 := assign
  refine ER.nil (fun w1 h1 => ?_)
  refine AQ.then ?_
  refine EC.seq ?_
  refine EC.seq ?_
  cases hsp1 : ((decide (m < 0) || decide ((ms.length : Int) ≤ m)) || decide (x < 0))
  ·
    -- region 1  ref.go:89
    refine EC.region (fun i => [1, 1, 1, 1, 1, 1, 1, 1, 1, 1, 1, 1, 1, 1, 1, 1, 1, 1, 1, 0, 1, 1, 1].getD i 0) [0, 1, 2, 3, 4, 5, 6, 7, 8, 9, 10, 11, 12, 13, 14, 15, 16, 17, 18, 19, 20, 21, 22] rfl ?_
    refine ER.sil rfl rfl rfl rfl (Sil.move rfl) ?_  -- 1.0: t7 := move
    refine ER.sil rfl rfl rfl rfl (Sil.lss rfl rfl) ?_  -- 1.1: t8 := binOp
    refine ER.sil rfl rfl rfl rfl (Sil.move rfl) ?_  -- 1.2: t9 := move
    refine ER.silG rfl rfl rfl rfl rfl rfl (fun hc => Sil.move rfl) ?_  -- 1.3: t10 := move
    refine ER.silG rfl rfl rfl rfl rfl rfl (fun hc => Sil.move rfl) ?_  -- 1.4: t11 := move
    refine ER.silG rfl rfl rfl rfl rfl rfl (fun hc => Sil.lenR Try.underlying22 (congrArg some (sel_eq hc _)) (Mods.isS hms)) ?_  -- 1.5: t12 := call
    refine ER.silG rfl rfl rfl rfl rfl rfl (fun hc => Sil.geq (congrArg some (sel_eq hc _)) (congrArg some (sel_eq hc _))) ?_  -- 1.6: t13 := binOp
    refine ER.sil rfl rfl rfl rfl (Sil.pickOr rfl rfl rfl) ?_  -- 1.7: t14 := pick
    refine ER.sil rfl rfl rfl rfl (Sil.move rfl) ?_  -- 1.8: t15 := move
    refine ER.silG rfl rfl rfl rfl rfl rfl (fun hc => Sil.move rfl) ?_  -- 1.9: t16 := move
    refine ER.silG rfl rfl rfl rfl rfl rfl (fun hc => Sil.lss (congrArg some (sel_eq hc _)) rfl) ?_  -- 1.10: t17 := binOp
    refine ER.sil rfl rfl rfl rfl (Sil.pickOr rfl rfl rfl) ?_  -- 1.11: t18 := pick
    refine ER.sil rfl rfl rfl rfl (Sil.move rfl) ?_  -- 1.12: t19 := move
    have hin : InR ms m := by unfold InR; simp at hsp1; omega
    have h0x : 0 ≤ x := by simp at hsp1; omega
    obtain ⟨ics, hicl, hiat, himc, hione⟩ := hms.image hin
    obtain ⟨ev, vv, hev, hex, _, _⟩ := himc
    refine ER.silD rfl rfl rfl rfl (by rw [hsp1]; rfl) rfl rfl (Sil.move rfl) ?_  -- 1.13: t20 := move
    refine ER.silD rfl rfl rfl rfl (by rw [hsp1]; rfl) rfl rfl (Sil.move rfl) ?_  -- 1.14: t21 := move
    refine ER.silD rfl rfl rfl rfl (by rw [hsp1]; rfl) rfl rfl (Sil.move rfl) ?_  -- 1.15: t22 := move
    refine ER.silD rfl rfl rfl rfl (by rw [hsp1]; rfl) rfl rfl (Sil.indexR Try.underlying22 inf56 rfl rfl (Mods.isE hms (by have := hin.1; have := hin.2; omega)) (hin.1) (hin.2)) ?_  -- 1.16: t23 := indexAddr
    refine ER.silD rfl rfl rfl rfl (by rw [hsp1]; rfl) rfl rfl (Sil.fieldAddr Try.underlying56 rfl inf54 rfl) ?_  -- 1.17: t24 := fieldAddr
    refine ER.silD rfl rfl rfl rfl (by rw [hsp1]; rfl) rfl rfl (Sil.fieldAddr Try.underlying54 rfl inf39 rfl) ?_  -- 1.18: t25 := fieldAddr
    refine ER.exD rfl rfl rfl rfl (by rw [hsp1]; rfl) rfl rfl (Exa.load flat39 rfl (cell_ext h1 (hiat _ _ hev))) ?_  -- 1.19: t26 := load
    refine ER.silD rfl rfl rfl rfl (by rw [hsp1]; rfl) rfl rfl (Sil.lenR Try.underlying39 rfl (Exs.isS hex)) ?_  -- 1.20: t27 := call
    refine ER.silD rfl rfl rfl rfl (by rw [hsp1]; rfl) rfl rfl (Sil.geq rfl rfl) ?_  -- 1.21: t28 := binOp
    refine ER.sil rfl rfl rfl rfl (Sil.pick rfl rfl rfl) ?_  -- 1.22: t29 := pick
    rw [hsp1]
    refine ER.nil (fun w2 h2 => ?_)
    refine AQ.then ?_
    refine EC.cond rfl (fun hb0 => ?_) (fun hb0 => ?_)  -- cond 0: t29
    ·
      have hxl : (moAt ms m).exports.length ≤ x.toNat := by have := of_decide_eq_true hb0; omega
      refine EC.seq ?_
      -- region 2  ref.go:90
      refine EC.region (fun i => [1].getD i 0) [0] rfl ?_
      refine ER.sil rfl rfl rfl rfl (Sil.assign rfl) ?_  -- 2.0: t6 := assign
      refine ER.nil (fun w3 h3 => ?_)
      refine AQ.then ?_
      refine EC.ret ?_
      refine AQ.thenRet ?_
      refine AQ.ret1 Try.results16 rfl ?_
      exact ⟨by rw [addrX, if_pos hin, List.getElem?_eq_none hxl], ((h1.trans h2).trans h3)⟩
    ·
      have hxl : x < (moAt ms m).exports.length := by have := of_decide_eq_false hb0; omega
      have hxn : x.toNat < (moAt ms m).exports.length := by omega
      obtain ⟨cs, hcl, hat, hco⟩ := hex.elem hxn
      refine EC.skip ?_
      refine AQ.then ?_
      refine EC.seq ?_
      -- region 3  ref.go:92
      refine EC.draw (fun i => [1, 1, 1, 1, 0, 1, 1, 1, 1, 1, 0, 1, 1, 1, 0, 1, 1].getD i 0) [0, 1, 2, 3, 4, 5, 6, 7, 8, 9, 10, 11, 12, 13, 14, 15, 16] (by kernel_rfl) (by kernel_rfl) ?_
      refine ER.sil rfl rfl rfl rfl (Sil.move rfl) ?_  -- 3.0: t30 := move
      refine ER.sil rfl rfl rfl rfl (Sil.move rfl) ?_  -- 3.1: t31 := move
      refine ER.sil rfl rfl rfl rfl (Sil.indexR Try.underlying22 inf56 rfl rfl (Mods.isE hms (by have := hin.1; have := hin.2; omega)) (hin.1) (hin.2)) ?_  -- 3.2: t32 := indexAddr
      refine ER.sil rfl rfl rfl rfl (Sil.fieldAddr Try.underlying56 rfl inf3 rfl) ?_  -- 3.3: t33 := fieldAddr
      refine ER.ex rfl rfl rfl rfl (Exa.load flat3 rfl (Mods.base (hms.ext (h1.trans h2)) hin)) ?_  -- 3.4: t34 := load
      refine ER.sil rfl rfl rfl rfl (Sil.move rfl) ?_  -- 3.5: t35 := move
      refine ER.sil rfl rfl rfl rfl (Sil.move rfl) ?_  -- 3.6: t36 := move
      refine ER.sil rfl rfl rfl rfl (Sil.indexR Try.underlying22 inf56 rfl rfl (Mods.isE hms (by have := hin.1; have := hin.2; omega)) (hin.1) (hin.2)) ?_  -- 3.7: t37 := indexAddr
      refine ER.sil rfl rfl rfl rfl (Sil.fieldAddr Try.underlying56 rfl inf54 rfl) ?_  -- 3.8: t38 := fieldAddr
      refine ER.sil rfl rfl rfl rfl (Sil.fieldAddr Try.underlying54 rfl inf39 rfl) ?_  -- 3.9: t39 := fieldAddr
      refine ER.ex rfl rfl rfl rfl (Exa.load flat39 rfl (cell_ext (h1.trans h2) (hiat _ _ hev))) ?_  -- 3.10: t40 := load
      refine ER.sil rfl rfl rfl rfl (Sil.move rfl) ?_  -- 3.11: t41 := move
      refine ER.sil rfl rfl rfl rfl (Sil.indexR Try.underlying39 inf62 rfl rfl (Exs.isE hex (by omega)) (h0x) (hxl)) ?_  -- 3.12: t42 := indexAddr
      refine ER.sil rfl rfl rfl rfl (Sil.fieldAddr Try.underlying62 rfl inf3 rfl) ?_  -- 3.13: t43 := fieldAddr
      refine ER.ex rfl rfl rfl rfl (Exa.load flat3 rfl (cell_ext (h1.trans h2) (hat _ _ hco.2.2.2.2.1))) ?_  -- 3.14: t44 := load
      refine ER.sil rfl rfl rfl rfl (Sil.add rfl rfl) ?_  -- 3.15: t45 := binOp
      refine ER.sil rfl rfl rfl rfl (Sil.assign rfl) ?_  -- 3.16: t6 := assign
      refine ER.nil (fun w4 h4 => ?_)
      refine AQ.then ?_
      refine EC.ret ?_
      refine AQ.ret1 Try.results16 rfl ?_
      exact ⟨by rw [addrX, if_pos hin, List.getElem?_eq_getElem hxn]; simp only [if_pos h0x], ((h1.trans h2).trans h4)⟩
  ·
    -- region 1  ref.go:89
    refine EC.region (fun i => [1, 1, 1, 1, 1, 1, 1, 1, 1, 1, 1, 1, 1, 1, 1, 1, 1, 1, 1, 0, 1, 1, 1].getD i 0) [0, 1, 2, 3, 4, 5, 6, 7, 8, 9, 10, 11, 12, 13, 14, 15, 16, 17, 18, 19, 20, 21, 22] rfl ?_
    refine ER.sil rfl rfl rfl rfl (Sil.move rfl) ?_  -- 1.0: t7 := move
    refine ER.sil rfl rfl rfl rfl (Sil.lss rfl rfl) ?_  -- 1.1: t8 := binOp
    refine ER.sil rfl rfl rfl rfl (Sil.move rfl) ?_  -- 1.2: t9 := move
    refine ER.silG rfl rfl rfl rfl rfl rfl (fun hc => Sil.move rfl) ?_  -- 1.3: t10 := move
    refine ER.silG rfl rfl rfl rfl rfl rfl (fun hc => Sil.move rfl) ?_  -- 1.4: t11 := move
    refine ER.silG rfl rfl rfl rfl rfl rfl (fun hc => Sil.lenR Try.underlying22 (congrArg some (sel_eq hc _)) (Mods.isS hms)) ?_  -- 1.5: t12 := call
    refine ER.silG rfl rfl rfl rfl rfl rfl (fun hc => Sil.geq (congrArg some (sel_eq hc _)) (congrArg some (sel_eq hc _))) ?_  -- 1.6: t13 := binOp
    refine ER.sil rfl rfl rfl rfl (Sil.pickOr rfl rfl rfl) ?_  -- 1.7: t14 := pick
    refine ER.sil rfl rfl rfl rfl (Sil.move rfl) ?_  -- 1.8: t15 := move
    refine ER.silG rfl rfl rfl rfl rfl rfl (fun hc => Sil.move rfl) ?_  -- 1.9: t16 := move
    refine ER.silG rfl rfl rfl rfl rfl rfl (fun hc => Sil.lss (congrArg some (sel_eq hc _)) rfl) ?_  -- 1.10: t17 := binOp
    refine ER.sil rfl rfl rfl rfl (Sil.pickOr rfl rfl rfl) ?_  -- 1.11: t18 := pick
    refine ER.sil rfl rfl rfl rfl (Sil.move rfl) ?_  -- 1.12: t19 := move
    refine ER.skipG rfl rfl rfl rfl (by rw [hsp1]; rfl) rfl ?_  -- 1.13
    refine ER.skipG rfl rfl rfl rfl (by rw [hsp1]; rfl) rfl ?_  -- 1.14
    refine ER.skipG rfl rfl rfl rfl (by rw [hsp1]; rfl) rfl ?_  -- 1.15
    refine ER.skipG rfl rfl rfl rfl (by rw [hsp1]; rfl) rfl ?_  -- 1.16
    refine ER.skipG rfl rfl rfl rfl (by rw [hsp1]; rfl) rfl ?_  -- 1.17
    refine ER.skipG rfl rfl rfl rfl (by rw [hsp1]; rfl) rfl ?_  -- 1.18
    refine ER.skipG rfl rfl rfl rfl (by rw [hsp1]; rfl) rfl ?_  -- 1.19
    refine ER.skipG rfl rfl rfl rfl (by rw [hsp1]; rfl) rfl ?_  -- 1.20
    refine ER.skipG rfl rfl rfl rfl (by rw [hsp1]; rfl) rfl ?_  -- 1.21
    refine ER.sil rfl rfl rfl rfl (Sil.pick rfl rfl rfl) ?_  -- 1.22: t29 := pick
    rw [hsp1]
    refine ER.nil (fun w5 h5 => ?_)
    refine AQ.then ?_
    refine EC.cond rfl (fun hb1 => ?_) (fun hb1 => ?_)  -- cond 1: t29
    ·
      refine EC.seq ?_
      -- region 2  ref.go:90
      refine EC.region (fun i => [1].getD i 0) [0] rfl ?_
      refine ER.sil rfl rfl rfl rfl (Sil.assign rfl) ?_  -- 2.0: t6 := assign
      refine ER.nil (fun w6 h6 => ?_)
      refine AQ.then ?_
      refine EC.ret ?_
      refine AQ.thenRet ?_
      refine AQ.ret1 Try.results16 rfl ?_
      refine ⟨?_, ((h1.trans h5).trans h6)⟩
      have hz : addrX ms m x = 0 := by
        unfold addrX
        split
        · rename_i hin
          have : ¬ 0 ≤ x := by have h1 := hin.1; have h2 := hin.2; simp at hsp1; omega
          split
          · rw [if_neg this]
          · rfl
        · rfl
      rw [hz]
    ·
      cases hb1

end Go.Proofs.Ytgagjmapjdeknaa
