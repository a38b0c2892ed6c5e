/- Locate: the tests. -/
import Derived.Test.YtcgapppamhffjaaW1
namespace Go.Proofs.Ytcgapppamhffjaa
open Go.RowKit Go.XK Go.LocateLaw

-- linchpin/locate.At$1: parameters ['int'] (free 2), results [('ResultVar.tmp', 4)], 14 slots
set_option maxRecDepth 100000 in
theorem at1_any (y p : Int) (s : Sp) (b1 b2 : Nat) (w : World) (q1 : Row w b1 61 (spC s)) (q2 : Row w b2 3 [.int .i64 p]) :
    Calls Try.prog 20 [.int .i64 y, ptr b1, ptr b2].toArray w fun e w' => e = .returned (.bool (decide (s.at_ ≤ y) && decide (y ≤ p))) ∧ Ext w w' := by
  refine calls_of Try.func20 rfl Try.ntmps20 rfl ?_
  refine EC.seq ?_
  -- region 0  locate.go:45
  refine EC.region (fun i => [1].getD i 0) [0] rfl ?_
  refine ER.sil rfl rfl rfl rfl (Sil.assign rfl) ?_  -- 0.0: t4 := assign
  refine ER.nil (fun w1 h1 => ?_)
  refine AQ.then ?_
  refine EC.seq ?_
  -- region 1  locate.go:45
  refine EC.region (fun i => [1, 0, 1, 1, 1, 1, 0, 1, 1, 1].getD i 0) [0, 1, 2, 3, 4, 5, 6, 7, 8, 9] rfl ?_
  refine ER.sil rfl rfl rfl rfl (Sil.fieldAddr Try.underlying61 rfl inf3 rfl) ?_  -- 1.0: t5 := fieldAddr
  refine ER.ex rfl rfl rfl rfl (Exa.load flat3 rfl ((q1.ext h1).cell rfl)) ?_  -- 1.1: t6 := load
  refine ER.sil rfl rfl rfl rfl (Sil.move rfl) ?_  -- 1.2: t7 := move
  refine ER.sil rfl rfl rfl rfl (Sil.leq rfl rfl) ?_  -- 1.3: t8 := binOp
  refine ER.sil rfl rfl rfl rfl (Sil.move rfl) ?_  -- 1.4: t9 := move
  refine ER.silG rfl rfl rfl rfl rfl rfl (fun hc => Sil.move rfl) ?_  -- 1.5: t10 := move
  refine ER.exG rfl rfl rfl rfl rfl rfl (fun hc => Exa.load flat3 rfl ((q2.ext h1).cell rfl)) ?_  -- 1.6: t11 := load
  refine ER.silG rfl rfl rfl rfl rfl rfl (fun hc => Sil.leq (congrArg some (sel_eq hc _)) (congrArg some (sel_eq hc _))) ?_  -- 1.7: t12 := binOp
  refine ER.sil rfl rfl rfl rfl (Sil.pickAnd rfl rfl rfl) ?_  -- 1.8: t13 := pick
  refine ER.sil rfl rfl rfl rfl (Sil.assign rfl) ?_  -- 1.9: t4 := assign
  refine ER.nil (fun w2 h2 => ?_)
  refine AQ.then ?_
  refine EC.ret ?_
  refine AQ.ret1 Try.results20 rfl ?_
  exact ⟨rfl, (h1.trans h2)⟩

-- linchpin/locate.At$2: parameters ['api.Mark'] (free 1), results [('ResultVar.tmp', 3)], 13 slots
set_option maxRecDepth 100000 in
theorem at2_any (x : Mk) (s : Sp) (p : Int) (b0 b1 b2 : Nat) (w : World) (q0 : Row w b0 64 [.func (.func 20) #[] #[ptr b1, ptr b2]]) (q1 : Row w b1 61 (spC s)) (q2 : Row w b2 3 [.int .i64 p]) :
    Calls Try.prog 23 [.agg (mkC x).toArray, ptr b0].toArray w fun e w' => e = .returned (.bool (mkP s.at_ p x)) ∧ Ext w w' := by
  refine calls_of Try.func23 rfl Try.ntmps23 rfl ?_
  refine EC.seq ?_
  -- region 0  locate.go:47
  refine EC.region (fun i => [2, 1].getD i 0) [0, 1] rfl ?_
  refine ER.st rfl rfl rfl rfl (fun w1 h1 => Stp.box rfl (fun w2 h2 s2 r2 => ⟨h2, ?_⟩))  -- 0.0: t2 := box
  refine ER.sil rfl rfl rfl rfl (Sil.assign rfl) ?_  -- 0.1: t3 := assign
  refine ER.nil (fun w3 h3 => ?_)
  refine AQ.then ?_
  refine EC.seq ?_
  -- region 1  locate.go:47
  refine EC.region (fun i => [1, 0, 1, 1, 0, 1, 0, 0, 1, 1].getD i 0) [0, 1, 2, 3, 4, 5, 6, 7, 8, 9] rfl ?_
  refine ER.sil rfl rfl rfl rfl (Sil.fieldAddr Try.underlying66 rfl inf3 rfl) ?_  -- 1.0: t4 := fieldAddr
  refine ER.ex rfl rfl rfl rfl (Exa.load flat3 rfl ((r2.ext h3).cell rfl)) ?_  -- 1.1: t5 := load
  refine ER.sil rfl rfl rfl rfl (Sil.eql rfl rfl) ?_  -- 1.2: t6 := binOp
  refine ER.sil rfl rfl rfl rfl (Sil.move rfl) ?_  -- 1.3: t7 := move
  refine ER.exG rfl rfl rfl rfl rfl rfl (fun hc => Exa.load flat64 rfl ((q0.ext ((h1.trans h2).trans h3)).cell rfl)) ?_  -- 1.4: t8 := load
  refine ER.silG rfl rfl rfl rfl rfl rfl (fun hc => Sil.fieldAddr Try.underlying66 rfl inf3 rfl) ?_  -- 1.5: t9 := fieldAddr
  refine ER.exG rfl rfl rfl rfl rfl rfl (fun hc => Exa.load flat3 (congrArg some (sel_eq hc _)) ((r2.ext h3).cell rfl)) ?_  -- 1.6: t10 := load
  refine ER.exG rfl rfl rfl rfl rfl rfl (fun hc => Exa.callC fok20 (congrArg some (sel_eq hc _)) (evs_cons (congrArg some (sel_eq hc _)) evs_nil) (fun wx hx => (at1_any x.at_ p s b1 b2 wx (q1.ext (((h1.trans h2).trans h3).trans hx)) (q2.ext (((h1.trans h2).trans h3).trans hx))))) ?_  -- 1.7: t11 := call
  refine ER.sil rfl rfl rfl rfl (Sil.pickAnd rfl rfl rfl) ?_  -- 1.8: t12 := pick
  refine ER.sil rfl rfl rfl rfl (Sil.assign rfl) ?_  -- 1.9: t3 := assign
  refine ER.nil (fun w4 h4 => ?_)
  refine AQ.then ?_
  refine EC.ret ?_
  refine AQ.ret1 Try.results23 rfl ?_
  exact ⟨rfl, (((h1.trans h2).trans h3).trans h4)⟩

-- linchpin/locate.At$3: parameters ['api.Line'] (free 1), results [('ResultVar.tmp', 3)], 8 slots
set_option maxRecDepth 100000 in
theorem at3_any (x : Ln) (s : Sp) (p : Int) (b0 b1 b2 : Nat) (w : World) (q0 : Row w b0 64 [.func (.func 20) #[] #[ptr b1, ptr b2]]) (q1 : Row w b1 61 (spC s)) (q2 : Row w b2 3 [.int .i64 p]) :
    Calls Try.prog 26 [.agg (lnC x).toArray, ptr b0].toArray w fun e w' => e = .returned (.bool (lnP s.at_ p x)) ∧ Ext w w' := by
  refine calls_of Try.func26 rfl Try.ntmps26 rfl ?_
  refine EC.seq ?_
  -- region 0  locate.go:50
  refine EC.region (fun i => [2, 1].getD i 0) [0, 1] rfl ?_
  refine ER.st rfl rfl rfl rfl (fun w1 h1 => Stp.box rfl (fun w2 h2 s2 r2 => ⟨h2, ?_⟩))  -- 0.0: t2 := box
  refine ER.sil rfl rfl rfl rfl (Sil.assign rfl) ?_  -- 0.1: t3 := assign
  refine ER.nil (fun w3 h3 => ?_)
  refine AQ.then ?_
  refine EC.seq ?_
  -- region 1  locate.go:50
  refine EC.region (fun i => [0, 1, 0, 0, 1].getD i 0) [0, 1, 2, 3, 4] rfl ?_
  refine ER.ex rfl rfl rfl rfl (Exa.load flat64 rfl ((q0.ext ((h1.trans h2).trans h3)).cell rfl)) ?_  -- 1.0: t4 := load
  refine ER.sil rfl rfl rfl rfl (Sil.fieldAddr Try.underlying74 rfl inf3 rfl) ?_  -- 1.1: t5 := fieldAddr
  refine ER.ex rfl rfl rfl rfl (Exa.load flat3 rfl ((r2.ext h3).cell rfl)) ?_  -- 1.2: t6 := load
  refine ER.ex rfl rfl rfl rfl (Exa.callC fok20 rfl rfl (fun wx hx => (at1_any x.at_ p s b1 b2 wx (q1.ext (((h1.trans h2).trans h3).trans hx)) (q2.ext (((h1.trans h2).trans h3).trans hx))))) ?_  -- 1.3: t7 := call
  refine ER.sil rfl rfl rfl rfl (Sil.assign rfl) ?_  -- 1.4: t3 := assign
  refine ER.nil (fun w4 h4 => ?_)
  refine AQ.then ?_
  refine EC.ret ?_
  refine AQ.ret1 Try.results26 rfl ?_
  exact ⟨rfl, (((h1.trans h2).trans h3).trans h4)⟩

-- linchpin/locate.At$4: parameters ['api.Inline'] (free 1), results [('ResultVar.tmp', 3)], 14 slots
set_option maxRecDepth 100000 in
theorem at4_any (x : Il) (p : Int) (b1 : Nat) (w : World) (q1 : Row w b1 3 [.int .i64 p]) :
    Calls Try.prog 29 [.agg (ilC x).toArray, ptr b1].toArray w fun e w' => e = .returned (.bool (ilP p x)) ∧ Ext w w' := by
  refine calls_of Try.func29 rfl Try.ntmps29 rfl ?_
  refine EC.seq ?_
  -- region 0  locate.go:53
  refine EC.region (fun i => [2, 1].getD i 0) [0, 1] rfl ?_
  refine ER.st rfl rfl rfl rfl (fun w1 h1 => Stp.box rfl (fun w2 h2 s2 r2 => ⟨h2, ?_⟩))  -- 0.0: t2 := box
  refine ER.sil rfl rfl rfl rfl (Sil.assign rfl) ?_  -- 0.1: t3 := assign
  refine ER.nil (fun w3 h3 => ?_)
  refine AQ.then ?_
  refine EC.seq ?_
  -- region 1  locate.go:53
  refine EC.region (fun i => [1, 0, 0, 1, 1, 0, 1, 0, 1, 1, 1].getD i 0) [0, 1, 2, 3, 4, 5, 6, 7, 8, 9, 10] rfl ?_
  refine ER.sil rfl rfl rfl rfl (Sil.fieldAddr Try.underlying57 rfl inf3 rfl) ?_  -- 1.0: t4 := fieldAddr
  refine ER.ex rfl rfl rfl rfl (Exa.load flat3 rfl ((r2.ext h3).cell rfl)) ?_  -- 1.1: t5 := load
  refine ER.ex rfl rfl rfl rfl (Exa.load flat3 rfl ((q1.ext ((h1.trans h2).trans h3)).cell rfl)) ?_  -- 1.2: t6 := load
  refine ER.sil rfl rfl rfl rfl (Sil.leq rfl rfl) ?_  -- 1.3: t7 := binOp
  refine ER.sil rfl rfl rfl rfl (Sil.move rfl) ?_  -- 1.4: t8 := move
  refine ER.exG rfl rfl rfl rfl rfl rfl (fun hc => Exa.load flat3 rfl ((q1.ext ((h1.trans h2).trans h3)).cell rfl)) ?_  -- 1.5: t9 := load
  refine ER.silG rfl rfl rfl rfl rfl rfl (fun hc => Sil.fieldAddr Try.underlying57 rfl inf3 rfl) ?_  -- 1.6: t10 := fieldAddr
  refine ER.exG rfl rfl rfl rfl rfl rfl (fun hc => Exa.load flat3 (congrArg some (sel_eq hc _)) ((r2.ext h3).cell rfl)) ?_  -- 1.7: t11 := load
  refine ER.silG rfl rfl rfl rfl rfl rfl (fun hc => Sil.lss (congrArg some (sel_eq hc _)) (congrArg some (sel_eq hc _))) ?_  -- 1.8: t12 := binOp
  refine ER.sil rfl rfl rfl rfl (Sil.pickAnd rfl rfl rfl) ?_  -- 1.9: t13 := pick
  refine ER.sil rfl rfl rfl rfl (Sil.assign rfl) ?_  -- 1.10: t3 := assign
  refine ER.nil (fun w4 h4 => ?_)
  refine AQ.then ?_
  refine EC.ret ?_
  refine AQ.ret1 Try.results29 rfl ?_
  exact ⟨rfl, (((h1.trans h2).trans h3).trans h4)⟩

-- linchpin/locate.Vars$1: parameters ['api.Var'] (free 1), results [('ResultVar.tmp', 3)], 14 slots
set_option maxRecDepth 100000 in
theorem vars1_any (x : Vr) (p : Int) (b1 : Nat) (w : World) (q1 : Row w b1 3 [.int .i64 p]) :
    Calls Try.prog 35 [.agg (vrC x).toArray, ptr b1].toArray w fun e w' => e = .returned (.bool (vrP p x)) ∧ Ext w w' := by
  refine calls_of Try.func35 rfl Try.ntmps35 rfl ?_
  refine EC.seq ?_
  -- region 0  locate.go:63
  refine EC.region (fun i => [2, 1].getD i 0) [0, 1] rfl ?_
  refine ER.st rfl rfl rfl rfl (fun w1 h1 => Stp.box rfl (fun w2 h2 s2 r2 => ⟨h2, ?_⟩))  -- 0.0: t2 := box
  refine ER.sil rfl rfl rfl rfl (Sil.assign rfl) ?_  -- 0.1: t3 := assign
  refine ER.nil (fun w3 h3 => ?_)
  refine AQ.then ?_
  refine EC.seq ?_
  -- region 1  locate.go:63
  refine EC.region (fun i => [1, 0, 0, 1, 1, 0, 1, 0, 1, 1, 1].getD i 0) [0, 1, 2, 3, 4, 5, 6, 7, 8, 9, 10] rfl ?_
  refine ER.sil rfl rfl rfl rfl (Sil.fieldAddr Try.underlying55 rfl inf3 rfl) ?_  -- 1.0: t4 := fieldAddr
  refine ER.ex rfl rfl rfl rfl (Exa.load flat3 rfl ((r2.ext h3).cell rfl)) ?_  -- 1.1: t5 := load
  refine ER.ex rfl rfl rfl rfl (Exa.load flat3 rfl ((q1.ext ((h1.trans h2).trans h3)).cell rfl)) ?_  -- 1.2: t6 := load
  refine ER.sil rfl rfl rfl rfl (Sil.leq rfl rfl) ?_  -- 1.3: t7 := binOp
  refine ER.sil rfl rfl rfl rfl (Sil.move rfl) ?_  -- 1.4: t8 := move
  refine ER.exG rfl rfl rfl rfl rfl rfl (fun hc => Exa.load flat3 rfl ((q1.ext ((h1.trans h2).trans h3)).cell rfl)) ?_  -- 1.5: t9 := load
  refine ER.silG rfl rfl rfl rfl rfl rfl (fun hc => Sil.fieldAddr Try.underlying55 rfl inf3 rfl) ?_  -- 1.6: t10 := fieldAddr
  refine ER.exG rfl rfl rfl rfl rfl rfl (fun hc => Exa.load flat3 (congrArg some (sel_eq hc _)) ((r2.ext h3).cell rfl)) ?_  -- 1.7: t11 := load
  refine ER.silG rfl rfl rfl rfl rfl rfl (fun hc => Sil.lss (congrArg some (sel_eq hc _)) (congrArg some (sel_eq hc _))) ?_  -- 1.8: t12 := binOp
  refine ER.sil rfl rfl rfl rfl (Sil.pickAnd rfl rfl rfl) ?_  -- 1.9: t13 := pick
  refine ER.sil rfl rfl rfl rfl (Sil.assign rfl) ?_  -- 1.10: t3 := assign
  refine ER.nil (fun w4 h4 => ?_)
  refine AQ.then ?_
  refine EC.ret ?_
  refine AQ.ret1 Try.results35 rfl ?_
  exact ⟨rfl, (((h1.trans h2).trans h3).trans h4)⟩

-- linchpin/locate.Vars$2: parameters ['api.Var'] (free 1), results [('ResultVar.tmp', 3)], 9 slots
set_option maxRecDepth 100000 in
theorem vars2_any (x : Vr) (y : Vr) (b1 : Nat) (w : World) (q1 : Row w b1 55 (vrC y)) :
    Calls Try.prog 37 [.agg (vrC x).toArray, ptr b1].toArray w fun e w' => e = .returned (.bool (decide (x.name = y.name))) ∧ Ext w w' := by
  refine calls_of Try.func37 rfl Try.ntmps37 rfl ?_
  refine EC.seq ?_
  -- region 0  locate.go:66
  refine EC.region (fun i => [2, 1].getD i 0) [0, 1] rfl ?_
  refine ER.st rfl rfl rfl rfl (fun w1 h1 => Stp.box rfl (fun w2 h2 s2 r2 => ⟨h2, ?_⟩))  -- 0.0: t2 := box
  refine ER.sil rfl rfl rfl rfl (Sil.assign rfl) ?_  -- 0.1: t3 := assign
  refine ER.nil (fun w3 h3 => ?_)
  refine AQ.then ?_
  refine EC.seq ?_
  -- region 1  locate.go:66
  refine EC.region (fun i => [1, 0, 1, 0, 1, 1].getD i 0) [0, 1, 2, 3, 4, 5] rfl ?_
  refine ER.sil rfl rfl rfl rfl (Sil.fieldAddr Try.underlying55 rfl inf9 rfl) ?_  -- 1.0: t4 := fieldAddr
  refine ER.ex rfl rfl rfl rfl (Exa.load flat9 rfl ((r2.ext h3).cell rfl)) ?_  -- 1.1: t5 := load
  refine ER.sil rfl rfl rfl rfl (Sil.fieldAddr Try.underlying55 rfl inf9 rfl) ?_  -- 1.2: t6 := fieldAddr
  refine ER.ex rfl rfl rfl rfl (Exa.load flat9 rfl ((q1.ext ((h1.trans h2).trans h3)).cell rfl)) ?_  -- 1.3: t7 := load
  refine ER.sil rfl rfl rfl rfl (Sil.seql rfl rfl) ?_  -- 1.4: t8 := binOp
  refine ER.sil rfl rfl rfl rfl (Sil.assign rfl) ?_  -- 1.5: t3 := assign
  refine ER.nil (fun w4 h4 => ?_)
  refine AQ.then ?_
  refine EC.ret ?_
  refine AQ.ret1 Try.results37 rfl ?_
  exact ⟨rfl, (((h1.trans h2).trans h3).trans h4)⟩

-- linchpin/locate.Find$1: parameters ['api.Mark'] (free 1), results [('ResultVar.tmp', 3)], 13 slots
set_option maxRecDepth 100000 in
theorem find1_any (x : Mk) (s : ByteArray) (b1 : Nat) (w : World) (q1 : Row w b1 9 [.string s]) :
    Calls Try.prog 32 [.agg (mkC x).toArray, ptr b1].toArray w fun e w' => e = .returned (.bool (fnP s x)) ∧ Ext w w' := by
  refine calls_of Try.func32 rfl Try.ntmps32 rfl ?_
  refine EC.seq ?_
  -- region 0  locate.go:75
  refine EC.region (fun i => [2, 1].getD i 0) [0, 1] rfl ?_
  refine ER.st rfl rfl rfl rfl (fun w1 h1 => Stp.box rfl (fun w2 h2 s2 r2 => ⟨h2, ?_⟩))  -- 0.0: t2 := box
  refine ER.sil rfl rfl rfl rfl (Sil.assign rfl) ?_  -- 0.1: t3 := assign
  refine ER.nil (fun w3 h3 => ?_)
  refine AQ.then ?_
  refine EC.seq ?_
  -- region 1  locate.go:75
  refine EC.region (fun i => [1, 0, 1, 1, 1, 0, 0, 1, 1, 1].getD i 0) [0, 1, 2, 3, 4, 5, 6, 7, 8, 9] rfl ?_
  refine ER.sil rfl rfl rfl rfl (Sil.fieldAddr Try.underlying66 rfl inf3 rfl) ?_  -- 1.0: t4 := fieldAddr
  refine ER.ex rfl rfl rfl rfl (Exa.load flat3 rfl ((r2.ext h3).cell rfl)) ?_  -- 1.1: t5 := load
  refine ER.sil rfl rfl rfl rfl (Sil.eql rfl rfl) ?_  -- 1.2: t6 := binOp
  refine ER.sil rfl rfl rfl rfl (Sil.move rfl) ?_  -- 1.3: t7 := move
  refine ER.silG rfl rfl rfl rfl rfl rfl (fun hc => Sil.fieldAddr Try.underlying66 rfl inf9 rfl) ?_  -- 1.4: t8 := fieldAddr
  refine ER.exG rfl rfl rfl rfl rfl rfl (fun hc => Exa.load flat9 (congrArg some (sel_eq hc _)) ((r2.ext h3).cell rfl)) ?_  -- 1.5: t9 := load
  refine ER.exG rfl rfl rfl rfl rfl rfl (fun hc => Exa.load flat9 rfl ((q1.ext ((h1.trans h2).trans h3)).cell rfl)) ?_  -- 1.6: t10 := load
  refine ER.silG rfl rfl rfl rfl rfl rfl (fun hc => Sil.seql (congrArg some (sel_eq hc _)) (congrArg some (sel_eq hc _))) ?_  -- 1.7: t11 := binOp
  refine ER.sil rfl rfl rfl rfl (Sil.pickAnd rfl rfl rfl) ?_  -- 1.8: t12 := pick
  refine ER.sil rfl rfl rfl rfl (Sil.assign rfl) ?_  -- 1.9: t3 := assign
  refine ER.nil (fun w4 h4 => ?_)
  refine AQ.then ?_
  refine EC.ret ?_
  refine AQ.ret1 Try.results32 rfl ?_
  exact ⟨rfl, (((h1.trans h2).trans h3).trans h4)⟩

-- linchpin/locate.Of$1: parameters ['api.Line'] (free 2), results [('ResultVar.tmp', 4)], 15 slots
set_option maxRecDepth 100000 in
theorem of1_any (x : Ln) (f : ByteArray) (n : Int) (b1 b2 : Nat) (w : World) (q1 : Row w b1 9 [.string f]) (q2 : Row w b2 3 [.int .i64 n]) :
    Calls Try.prog 38 [.agg (lnC x).toArray, ptr b1, ptr b2].toArray w fun e w' => e = .returned (.bool (lnOf f n x)) ∧ Ext w w' := by
  refine calls_of Try.func38 rfl Try.ntmps38 rfl ?_
  refine EC.seq ?_
  -- region 0  locate.go:84
  refine EC.region (fun i => [2, 1].getD i 0) [0, 1] rfl ?_
  refine ER.st rfl rfl rfl rfl (fun w1 h1 => Stp.box rfl (fun w2 h2 s2 r2 => ⟨h2, ?_⟩))  -- 0.0: t3 := box
  refine ER.sil rfl rfl rfl rfl (Sil.assign rfl) ?_  -- 0.1: t4 := assign
  refine ER.nil (fun w3 h3 => ?_)
  refine AQ.then ?_
  refine EC.seq ?_
  -- region 1  locate.go:84
  refine EC.region (fun i => [1, 0, 0, 1, 1, 1, 0, 0, 1, 1, 1].getD i 0) [0, 1, 2, 3, 4, 5, 6, 7, 8, 9, 10] rfl ?_
  refine ER.sil rfl rfl rfl rfl (Sil.fieldAddr Try.underlying74 rfl inf9 rfl) ?_  -- 1.0: t5 := fieldAddr
  refine ER.ex rfl rfl rfl rfl (Exa.load flat9 rfl ((r2.ext h3).cell rfl)) ?_  -- 1.1: t6 := load
  refine ER.ex rfl rfl rfl rfl (Exa.load flat9 rfl ((q1.ext ((h1.trans h2).trans h3)).cell rfl)) ?_  -- 1.2: t7 := load
  refine ER.sil rfl rfl rfl rfl (Sil.seql rfl rfl) ?_  -- 1.3: t8 := binOp
  refine ER.sil rfl rfl rfl rfl (Sil.move rfl) ?_  -- 1.4: t9 := move
  refine ER.silG rfl rfl rfl rfl rfl rfl (fun hc => Sil.fieldAddr Try.underlying74 rfl inf3 rfl) ?_  -- 1.5: t10 := fieldAddr
  refine ER.exG rfl rfl rfl rfl rfl rfl (fun hc => Exa.load flat3 (congrArg some (sel_eq hc _)) ((r2.ext h3).cell rfl)) ?_  -- 1.6: t11 := load
  refine ER.exG rfl rfl rfl rfl rfl rfl (fun hc => Exa.load flat3 rfl ((q2.ext ((h1.trans h2).trans h3)).cell rfl)) ?_  -- 1.7: t12 := load
  refine ER.silG rfl rfl rfl rfl rfl rfl (fun hc => Sil.eql (congrArg some (sel_eq hc _)) (congrArg some (sel_eq hc _))) ?_  -- 1.8: t13 := binOp
  refine ER.sil rfl rfl rfl rfl (Sil.pickAnd rfl rfl rfl) ?_  -- 1.9: t14 := pick
  refine ER.sil rfl rfl rfl rfl (Sil.assign rfl) ?_  -- 1.10: t4 := assign
  refine ER.nil (fun w4 h4 => ?_)
  refine AQ.then ?_
  refine EC.ret ?_
  refine AQ.ret1 Try.results38 rfl ?_
  exact ⟨rfl, (((h1.trans h2).trans h3).trans h4)⟩

end Go.Proofs.Ytcgapppamhffjaa
