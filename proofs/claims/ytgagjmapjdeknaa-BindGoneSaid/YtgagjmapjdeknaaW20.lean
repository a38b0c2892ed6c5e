/- Bind: the documented examples. -/
import Derived.Test.YtgagjmapjdeknaaW19
namespace Go.Proofs.Ytgagjmapjdeknaa
open Go.RowKit Go.XK Go.BindLaw

def sE : ByteArray := ⟨#[]⟩
theorem f_sc3 : scopeL (fourL 0) 3 = [0, 1, 2, 3] := by kernel_rfl
theorem f_sc0 : scopeL (fourL 0) 0 = [0, 1] := by kernel_rfl
theorem f_sc1 : scopeL (fourL 1) 3 = [2, 3] := by kernel_rfl
theorem f_sc4 : scopeL (fourL 0) 4 = [] := by kernel_rfl
theorem f_ad : addrX (fourL 0) 1 0 = 1032 := by kernel_rfl
theorem f_m1 : fMod (fourL 0) [0, 1, 2, 3] sF sV1 = 1 := by kernel_rfl
theorem f_e1 : fExp (fourL 0) [0, 1, 2, 3] sF sV1 = 0 := by kernel_rfl
theorem f_o1 : fOk (fourL 0) [0, 1, 2, 3] sF sV1 = true := by kernel_rfl
theorem f_m2 : fMod (fourL 0) [0, 1, 2, 3] sF sE = 2 := by kernel_rfl
theorem f_o2 : fOk (fourL 0) [0, 1, 2, 3] sF sE = true := by kernel_rfl
theorem f_o3 : fOk (fourL 0) [0, 1] sF sE = false := by kernel_rfl
theorem f_w : (whyL (fourL 0) [0, 1, 2, 3] sF sV1).length = 1 := by kernel_rfl
theorem ints_row {w : World} {b : Nat} {T : TypeId} (l : List Int) (h : Row w b T (l.map (Value.int .i64))) (hm : l.length ≤ maxLen) : Ints w (sl b l.length) l := ListR.of_lits (Reads.of_row h (by simp) hm)

-- linchpin/linchpinlaw31.small: parameters [] (free 0), results [('ResultVar.tmp', 0)], 87 slots
set_option maxRecDepth 100000 in
theorem small_any (w : World) :
    Calls Try.prog 8 [].toArray w fun e w' => e = .returned (.bool true) ∧ Ext w w' := by
  refine calls_of Try.func8 rfl Try.ntmps8 rfl ?_
  refine EC.seq ?_
  -- region 0  law.go:23
  refine EC.region (fun i => [1].getD i 0) [0] rfl ?_
  refine ER.sil rfl rfl rfl rfl (Sil.assign rfl) ?_  -- 0.0: t0 := assign
  refine ER.nil (fun w1 h1 => ?_)
  refine AQ.then ?_
  refine EC.seq ?_
  -- region 1  law.go:24
  refine EC.region (fun i => [2, 1].getD i 0) [0, 1] rfl ?_
  refine ER.st rfl rfl rfl rfl (fun w2 h2 => Stp.call fok21 rfl rfl (Calls.mono ((four_any 0 w2)) ?_))  -- 1.0: t12 := call
  rintro _ w3 ⟨v3, rfl, h3, hf3⟩
  refine ⟨v3, rfl, h3, ?_⟩
  refine ER.sil rfl rfl rfl rfl (Sil.assign rfl) ?_  -- 1.1: t1 := assign
  refine ER.nil (fun w4 h4 => ?_)
  refine AQ.then ?_
  refine EC.seq ?_
  -- region 2  law.go:25
  refine EC.region (fun i => [1, 0, 1, 1, 1, 1, 1, 1, 1].getD i 0) [0, 1, 2, 3, 4, 5, 6, 7, 8] rfl ?_
  refine ER.sil rfl rfl rfl rfl (Sil.move rfl) ?_  -- 2.0: t14 := move
  refine ER.ex rfl rfl rfl rfl (Exa.call fok10 rfl rfl (fun wx hx => (Find_any (fourL 0) _ 3 sF sV1 wx ((hf3.ext h4).ext hx) (by decide)))) ?_  -- 2.1: t15 := call
  rw [f_sc3, f_m1, f_e1, f_o1]
  refine ER.sil rfl rfl rfl rfl (Sil.move rfl) ?_  -- 2.2: t13 := move
  refine ER.sil rfl rfl rfl rfl (Sil.extract rfl rfl) ?_  -- 2.3: t16 := extract
  refine ER.sil rfl rfl rfl rfl (Sil.extract rfl rfl) ?_  -- 2.4: t17 := extract
  refine ER.sil rfl rfl rfl rfl (Sil.extract rfl rfl) ?_  -- 2.5: t18 := extract
  refine ER.sil rfl rfl rfl rfl (Sil.assign rfl) ?_  -- 2.6: t2 := assign
  refine ER.sil rfl rfl rfl rfl (Sil.assign rfl) ?_  -- 2.7: t3 := assign
  refine ER.sil rfl rfl rfl rfl (Sil.assign rfl) ?_  -- 2.8: t4 := assign
  refine ER.nil (fun w5 h5 => ?_)
  refine AQ.then ?_
  refine EC.seq ?_
  -- region 3  law.go:26
  refine EC.region (fun i => [1, 0, 1, 1, 1, 1, 1, 1, 1].getD i 0) [0, 1, 2, 3, 4, 5, 6, 7, 8] rfl ?_
  refine ER.sil rfl rfl rfl rfl (Sil.move rfl) ?_  -- 3.0: t20 := move
  refine ER.ex rfl rfl rfl rfl (Exa.call fok10 rfl rfl (fun wx hx => (Find_any (fourL 0) _ 3 sF sE wx ((hf3.ext (h4.trans h5)).ext hx) (by decide)))) ?_  -- 3.1: t21 := call
  rw [f_sc3, f_m2, f_o2]
  refine ER.sil rfl rfl rfl rfl (Sil.move rfl) ?_  -- 3.2: t19 := move
  refine ER.sil rfl rfl rfl rfl (Sil.extract rfl rfl) ?_  -- 3.3: t22 := extract
  refine ER.sil rfl rfl rfl rfl (Sil.extract rfl rfl) ?_  -- 3.4: t23 := extract
  refine ER.sil rfl rfl rfl rfl (Sil.extract rfl rfl) ?_  -- 3.5: t24 := extract
  refine ER.sil rfl rfl rfl rfl (Sil.assign rfl) ?_  -- 3.6: t5 := assign
  refine ER.sil rfl rfl rfl rfl (Sil.assign rfl) ?_  -- 3.7: t6 := assign
  refine ER.sil rfl rfl rfl rfl (Sil.assign rfl) ?_  -- 3.8: t7 := assign
  refine ER.nil (fun w6 h6 => ?_)
  refine AQ.then ?_
  refine EC.seq ?_
  -- region 4  law.go:27
  refine EC.region (fun i => [1, 0, 1, 1, 1, 1, 1, 1, 1].getD i 0) [0, 1, 2, 3, 4, 5, 6, 7, 8] rfl ?_
  refine ER.sil rfl rfl rfl rfl (Sil.move rfl) ?_  -- 4.0: t26 := move
  refine ER.ex rfl rfl rfl rfl (Exa.call fok10 rfl rfl (fun wx hx => (Find_any (fourL 0) _ 0 sF sE wx ((hf3.ext ((h4.trans h5).trans h6)).ext hx) (by decide)))) ?_  -- 4.1: t27 := call
  rw [f_sc0, f_o3]
  refine ER.sil rfl rfl rfl rfl (Sil.move rfl) ?_  -- 4.2: t25 := move
  refine ER.sil rfl rfl rfl rfl (Sil.extract rfl rfl) ?_  -- 4.3: t28 := extract
  refine ER.sil rfl rfl rfl rfl (Sil.extract rfl rfl) ?_  -- 4.4: t29 := extract
  refine ER.sil rfl rfl rfl rfl (Sil.extract rfl rfl) ?_  -- 4.5: t30 := extract
  refine ER.sil rfl rfl rfl rfl (Sil.assign rfl) ?_  -- 4.6: t8 := assign
  refine ER.sil rfl rfl rfl rfl (Sil.assign rfl) ?_  -- 4.7: t9 := assign
  refine ER.sil rfl rfl rfl rfl (Sil.assign rfl) ?_  -- 4.8: t10 := assign
  refine ER.nil (fun w7 h7 => ?_)
  refine AQ.then ?_
  refine EC.seq ?_
  -- region 5  law.go:28
  refine EC.region (fun i => [1, 2, 2, 0, 1, 1, 2, 2, 0, 1, 1, 2, 2, 2, 0, 1, 1].getD i 0) [0, 1, 2, 3, 4, 5, 6, 7, 8, 9, 10, 11, 12, 13, 14, 15, 16] rfl ?_
  refine ER.sil rfl rfl rfl rfl (Sil.move rfl) ?_  -- 5.0: t31 := move
  refine ER.st rfl rfl rfl rfl (fun w8 h8 => Stp.call fok13 rfl rfl (Calls.mono ((Scope_any (fourL 0) _ 3 w8 ((hf3.ext (((h4.trans h5).trans h6).trans h7)).ext h8) (by decide))) ?_))  -- 5.1: t32 := call
  rintro _ w9 ⟨v9, rfl, h9, hi9⟩
  refine ⟨v9, rfl, h9, ?_⟩
  refine ER.st rfl rfl rfl rfl (fun w10 h10 => Stp.buildAll [_, _, _, _] Try.underlying28 inf3 rfl rfl rfl rfl rfl rfl (fun w11 h11 s11 r11 => ⟨h11, ?_⟩))  -- 5.2: t33 := buildSlice
  refine ER.ex rfl rfl rfl rfl (Exa.call fok12 rfl rfl (fun wx hx => (same_any (scopeL (fourL 0) 3) [0, 1, 2, 3] _ _ wx ((hi9.ext (h10.trans h11)).ext hx) ((ints_row [0, 1, 2, 3] r11 (by decide)).ext hx)))) ?_  -- 5.3: t34 := call
  rw [decide_eq_true f_sc3]
  refine ER.sil rfl rfl rfl rfl (Sil.move rfl) ?_  -- 5.4: t35 := move
  refine ER.silD rfl rfl rfl rfl (rfl) rfl rfl (Sil.move rfl) ?_  -- 5.5: t36 := move
  refine ER.stG rfl rfl rfl rfl (rfl) rfl rfl (fun w12 h12 => Stp.call fok13 rfl rfl (Calls.mono ((Scope_any (fourL 0) _ 0 w12 ((hf3.ext (((((((h4.trans h5).trans h6).trans h7).trans h8).trans h9).trans h10).trans h11)).ext h12) (by decide))) ?_))  -- 5.6: t37 := call
  rintro _ w13 ⟨v13, rfl, h13, hi13⟩
  refine ⟨v13, rfl, h13, ?_⟩
  refine ER.stG rfl rfl rfl rfl (rfl) rfl rfl (fun w14 h14 => Stp.buildAll [_, _] Try.underlying28 inf3 rfl rfl rfl rfl rfl rfl (fun w15 h15 s15 r15 => ⟨h15, ?_⟩))  -- 5.7: t38 := buildSlice
  refine ER.exD rfl rfl rfl rfl (rfl) rfl rfl (Exa.call fok12 rfl rfl (fun wx hx => (same_any (scopeL (fourL 0) 0) [0, 1] _ _ wx ((hi13.ext (h14.trans h15)).ext hx) ((ints_row [0, 1] r15 (by decide)).ext hx)))) ?_  -- 5.8: t39 := call
  rw [decide_eq_true f_sc0]
  refine ER.sil rfl rfl rfl rfl (Sil.pick rfl rfl rfl) ?_  -- 5.9: t40 := pick
  refine ER.sil rfl rfl rfl rfl (Sil.move rfl) ?_  -- 5.10: t41 := move
  refine ER.stG rfl rfl rfl rfl (rfl) rfl rfl (fun w16 h16 => Stp.call fok21 rfl rfl (Calls.mono ((four_any 1 w16)) ?_))  -- 5.11: t42 := call
  rintro _ w17 ⟨v17, rfl, h17, hg17⟩
  refine ⟨v17, rfl, h17, ?_⟩
  refine ER.stG rfl rfl rfl rfl (rfl) rfl rfl (fun w18 h18 => Stp.call fok13 rfl rfl (Calls.mono ((Scope_any (fourL 1) _ 3 w18 (hg17.ext h18) (by decide))) ?_))  -- 5.12: t43 := call
  rintro _ w19 ⟨v19, rfl, h19, hi19⟩
  refine ⟨v19, rfl, h19, ?_⟩
  refine ER.stG rfl rfl rfl rfl (rfl) rfl rfl (fun w20 h20 => Stp.buildAll [_, _] Try.underlying28 inf3 rfl rfl rfl rfl rfl rfl (fun w21 h21 s21 r21 => ⟨h21, ?_⟩))  -- 5.13: t44 := buildSlice
  refine ER.exD rfl rfl rfl rfl (rfl) rfl rfl (Exa.call fok12 rfl rfl (fun wx hx => (same_any (scopeL (fourL 1) 3) [2, 3] _ _ wx ((hi19.ext (h20.trans h21)).ext hx) ((ints_row [2, 3] r21 (by decide)).ext hx)))) ?_  -- 5.14: t45 := call
  rw [decide_eq_true f_sc1]
  refine ER.sil rfl rfl rfl rfl (Sil.pick rfl rfl rfl) ?_  -- 5.15: t46 := pick
  refine ER.sil rfl rfl rfl rfl (Sil.assign rfl) ?_  -- 5.16: t11 := assign
  refine ER.nil (fun w22 h22 => ?_)
  refine AQ.then ?_
  refine EC.seq ?_
  -- region 6  law.go:29
  refine EC.region (fun i => [1, 1, 1, 1, 1, 1, 1, 1, 1, 1, 1, 1, 1, 1, 0, 1, 1, 1, 1, 1, 1, 1, 1, 1, 1, 1, 1, 1, 1, 1, 2, 1, 1, 1, 1, 1, 2, 1, 1, 1, 1].getD i 0) [0, 1, 2, 3, 4, 5, 6, 7, 8, 9, 10, 11, 12, 13, 14, 15, 16, 17, 18, 19, 20, 21, 22, 23, 24, 25, 26, 27, 28, 29, 30, 31, 32, 33, 34, 35, 36, 37, 38, 39, 40] rfl ?_
  refine ER.sil rfl rfl rfl rfl (Sil.move rfl) ?_  -- 6.0: t47 := move
  refine ER.sil rfl rfl rfl rfl (Sil.move rfl) ?_  -- 6.1: t48 := move
  refine ER.silG rfl rfl rfl rfl rfl rfl (fun hc => Sil.move rfl) ?_  -- 6.2: t49 := move
  refine ER.silG rfl rfl rfl rfl rfl rfl (fun hc => Sil.eql (congrArg some (sel_eq hc _)) rfl) ?_  -- 6.3: t50 := binOp
  refine ER.sil rfl rfl rfl rfl (Sil.pickAnd rfl rfl rfl) ?_  -- 6.4: t51 := pick
  refine ER.sil rfl rfl rfl rfl (Sil.move rfl) ?_  -- 6.5: t52 := move
  refine ER.silG rfl rfl rfl rfl rfl rfl (fun hc => Sil.move rfl) ?_  -- 6.6: t53 := move
  refine ER.silG rfl rfl rfl rfl rfl rfl (fun hc => Sil.eql (congrArg some (sel_eq hc _)) rfl) ?_  -- 6.7: t54 := binOp
  refine ER.sil rfl rfl rfl rfl (Sil.pickAnd rfl rfl rfl) ?_  -- 6.8: t55 := pick
  refine ER.sil rfl rfl rfl rfl (Sil.move rfl) ?_  -- 6.9: t56 := move
  refine ER.silG rfl rfl rfl rfl rfl rfl (fun hc => Sil.move rfl) ?_  -- 6.10: t57 := move
  refine ER.sil rfl rfl rfl rfl (Sil.pickAnd rfl rfl rfl) ?_  -- 6.11: t58 := pick
  refine ER.sil rfl rfl rfl rfl (Sil.move rfl) ?_  -- 6.12: t59 := move
  refine ER.silG rfl rfl rfl rfl rfl rfl (fun hc => Sil.move rfl) ?_  -- 6.13: t60 := move
  refine ER.exG rfl rfl rfl rfl rfl rfl (fun hc => Exa.call fok15 rfl (evs_cons (congrArg some (sel_eq hc _)) (evs_cons rfl (evs_cons rfl evs_nil))) (fun wx hx => (Address_any (fourL 0) _ 1 0 wx ((hf3.ext ((((((((((((((((((h4.trans h5).trans h6).trans h7).trans h8).trans h9).trans h10).trans h11).trans h12).trans h13).trans h14).trans h15).trans h16).trans h17).trans h18).trans h19).trans h20).trans h21).trans h22)).ext hx)))) ?_  -- 6.14: t61 := call
  rw [f_ad]
  refine ER.silG rfl rfl rfl rfl rfl rfl (fun hc => Sil.eql (congrArg some (sel_eq hc _)) rfl) ?_  -- 6.15: t62 := binOp
  refine ER.sil rfl rfl rfl rfl (Sil.pickAnd rfl rfl rfl) ?_  -- 6.16: t63 := pick
  refine ER.sil rfl rfl rfl rfl (Sil.move rfl) ?_  -- 6.17: t64 := move
  refine ER.silG rfl rfl rfl rfl rfl rfl (fun hc => Sil.move rfl) ?_  -- 6.18: t65 := move
  refine ER.silG rfl rfl rfl rfl rfl rfl (fun hc => Sil.eql (congrArg some (sel_eq hc _)) rfl) ?_  -- 6.19: t66 := binOp
  refine ER.sil rfl rfl rfl rfl (Sil.pickAnd rfl rfl rfl) ?_  -- 6.20: t67 := pick
  refine ER.sil rfl rfl rfl rfl (Sil.move rfl) ?_  -- 6.21: t68 := move
  refine ER.silG rfl rfl rfl rfl rfl rfl (fun hc => Sil.move rfl) ?_  -- 6.22: t69 := move
  refine ER.sil rfl rfl rfl rfl (Sil.pickAnd rfl rfl rfl) ?_  -- 6.23: t70 := pick
  refine ER.sil rfl rfl rfl rfl (Sil.move rfl) ?_  -- 6.24: t71 := move
  refine ER.silG rfl rfl rfl rfl rfl rfl (fun hc => Sil.move rfl) ?_  -- 6.25: t72 := move
  refine ER.silG rfl rfl rfl rfl rfl rfl (fun hc => Sil.not (congrArg some (sel_eq hc _))) ?_  -- 6.26: t73 := unOp
  refine ER.sil rfl rfl rfl rfl (Sil.pickAnd rfl rfl rfl) ?_  -- 6.27: t74 := pick
  refine ER.sil rfl rfl rfl rfl (Sil.move rfl) ?_  -- 6.28: t75 := move
  refine ER.silD rfl rfl rfl rfl (rfl) rfl rfl (Sil.move rfl) ?_  -- 6.29: t76 := move
  refine ER.stG rfl rfl rfl rfl (rfl) rfl rfl (fun w23 h23 => Stp.call fok17 rfl rfl (Calls.mono ((Why_any (fourL 0) _ 3 sF sV1 w23 ((hf3.ext ((((((((((((((((((h4.trans h5).trans h6).trans h7).trans h8).trans h9).trans h10).trans h11).trans h12).trans h13).trans h14).trans h15).trans h16).trans h17).trans h18).trans h19).trans h20).trans h21).trans h22)).ext h23) (by decide))) ?_))  -- 6.30: t77 := call
  rintro _ w24 ⟨v24, rfl, h24, hy24⟩
  refine ⟨v24, rfl, h24, ?_⟩
  refine ER.silD rfl rfl rfl rfl (rfl) rfl rfl (Sil.lenR Try.underlying31 rfl (Refs.isS hy24)) ?_  -- 6.31: t78 := call
  rw [f_sc3, f_w]
  refine ER.silD rfl rfl rfl rfl (rfl) rfl rfl (Sil.eql rfl rfl) ?_  -- 6.32: t79 := binOp
  refine ER.sil rfl rfl rfl rfl (Sil.pick rfl rfl rfl) ?_  -- 6.33: t80 := pick
  refine ER.sil rfl rfl rfl rfl (Sil.move rfl) ?_  -- 6.34: t81 := move
  refine ER.silD rfl rfl rfl rfl (rfl) rfl rfl (Sil.move rfl) ?_  -- 6.35: t82 := move
  refine ER.stG rfl rfl rfl rfl (rfl) rfl rfl (fun w25 h25 => Stp.call fok13 rfl rfl (Calls.mono ((Scope_any (fourL 0) _ 4 w25 ((hf3.ext ((((((((((((((((((((h4.trans h5).trans h6).trans h7).trans h8).trans h9).trans h10).trans h11).trans h12).trans h13).trans h14).trans h15).trans h16).trans h17).trans h18).trans h19).trans h20).trans h21).trans h22).trans h23).trans h24)).ext h25) (by decide))) ?_))  -- 6.36: t83 := call
  rintro _ w26 ⟨v26, rfl, h26, hi26⟩
  refine ⟨v26, rfl, h26, ?_⟩
  refine ER.silD rfl rfl rfl rfl (rfl) rfl rfl (Sil.lenR Try.underlying28 rfl (Ints.isS hi26)) ?_  -- 6.37: t84 := call
  rw [f_sc4]
  refine ER.silD rfl rfl rfl rfl (rfl) rfl rfl (Sil.eql rfl rfl) ?_  -- 6.38: t85 := binOp
  refine ER.sil rfl rfl rfl rfl (Sil.pick rfl rfl rfl) ?_  -- 6.39: t86 := pick
  refine ER.sil rfl rfl rfl rfl (Sil.assign rfl) ?_  -- 6.40: t0 := assign
  refine ER.nil (fun w27 h27 => ?_)
  refine AQ.then ?_
  refine EC.ret ?_
  refine AQ.ret1 Try.results8 rfl ?_
  exact ⟨rfl, ((((((((((((((((((((((((((h1.trans h2).trans h3).trans h4).trans h5).trans h6).trans h7).trans h8).trans h9).trans h10).trans h11).trans h12).trans h13).trans h14).trans h15).trans h16).trans h17).trans h18).trans h19).trans h20).trans h21).trans h22).trans h23).trans h24).trans h25).trans h26).trans h27)⟩

end Go.Proofs.Ytgagjmapjdeknaa
