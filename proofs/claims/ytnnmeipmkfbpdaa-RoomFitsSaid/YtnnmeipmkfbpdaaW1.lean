/- Room: the walks of valid, end, Right, Total, one. -/
import Derived.Test.YtnnmeipmkfbpdaaBase
namespace Go.Proofs.Ytnnmeipmkfbpdaa
open Go.RowKit Go.XK Go.RoomLaw

theorem end_any (s : Sp) (w : World) :
    Calls Try.prog 26 [spV s].toArray w fun e w' => e = .returned (.int .i64 (endS s)) ∧ Ext w w' := by
  refine calls_of Try.func26 rfl Try.ntmps26 rfl ?_
  refine EC.seq ?_
  -- region 0  room.go:17
  refine EC.region (fun i => [2, 1].getD i 0) [0, 1] rfl ?_
  refine ER.st rfl rfl rfl rfl (fun w1 h1 => Stp.box rfl (fun w2 h2 s2 r2 => ⟨h2, ?_⟩))  -- 0: t1 := box
  refine ER.sil rfl rfl rfl rfl (Sil.assign rfl) ?_  -- 1: t2 := assign
  refine ER.nil (fun w3 h3 => ?_)
  refine AQ.then ?_
  refine EC.seq ?_
  -- region 1  room.go:17
  refine EC.region (fun i => [1, 0, 1, 0, 1, 1].getD i 0) [0, 1, 2, 3, 4, 5] rfl ?_
  refine ER.sil rfl rfl rfl rfl (Sil.fieldAddr Try.underlying24 rfl inf3 rfl) ?_  -- 0: t3 := fieldAddr
  refine ER.ex rfl rfl rfl rfl (Exa.load flat3 rfl ((r2.ext h3).cell rfl)) ?_  -- 1: t4 := load
  refine ER.sil rfl rfl rfl rfl (Sil.fieldAddr Try.underlying24 rfl inf3 rfl) ?_  -- 2: t5 := fieldAddr
  refine ER.ex rfl rfl rfl rfl (Exa.load flat3 rfl ((r2.ext h3).cell rfl)) ?_  -- 3: t6 := load
  refine ER.sil rfl rfl rfl rfl (Sil.add rfl rfl) ?_  -- 4: t7 := binOp
  refine ER.sil rfl rfl rfl rfl (Sil.assign rfl) ?_  -- 5: t2 := assign
  refine ER.nil (fun w4 h4 => ?_)
  refine AQ.then ?_
  refine EC.ret ?_
  refine AQ.ret1 Try.results26 rfl ?_
  exact ⟨rfl, (((h1.trans h2).trans h3).trans h4)⟩

theorem valid_any (s : Sp) (w : World) :
    Calls Try.prog 27 [spV s].toArray w fun e w' => e = .returned (.bool (validB s)) ∧ Ext w w' := by
  refine calls_of Try.func27 rfl Try.ntmps27 rfl ?_
  refine EC.seq ?_
  -- region 0  room.go:12
  refine EC.region (fun i => [2, 1].getD i 0) [0, 1] rfl ?_
  refine ER.st rfl rfl rfl rfl (fun w1 h1 => Stp.box rfl (fun w2 h2 s2 r2 => ⟨h2, ?_⟩))  -- 0: t1 := box
  refine ER.sil rfl rfl rfl rfl (Sil.assign rfl) ?_  -- 1: t2 := assign
  refine ER.nil (fun w3 h3 => ?_)
  refine AQ.then ?_
  refine EC.seq ?_
  -- region 1  room.go:13
  refine EC.region (fun i => [1, 0, 1, 1, 1, 0, 1, 1, 1, 1, 0, 1, 1, 1, 1, 0, 1, 0, 1, 1, 1, 1].getD i 0) [0, 1, 2, 3, 4, 5, 6, 7, 8, 9, 10, 11, 12, 13, 14, 15, 16, 17, 18, 19, 20, 21] rfl ?_
  refine ER.sil rfl rfl rfl rfl (Sil.fieldAddr Try.underlying24 rfl inf3 rfl) ?_  -- 0: t3 := fieldAddr
  refine ER.ex rfl rfl rfl rfl (Exa.load flat3 rfl ((r2.ext h3).cell rfl)) ?_  -- 1: t4 := load
  refine ER.sil rfl rfl rfl rfl (Sil.geq rfl rfl) ?_  -- 2: t5 := binOp
  refine ER.sil rfl rfl rfl rfl (Sil.move rfl) ?_  -- 3: t6 := move
  refine ER.silG rfl rfl rfl rfl rfl rfl (fun hc => Sil.fieldAddr Try.underlying24 rfl inf3 rfl) ?_  -- 4: t7 := fieldAddr
  refine ER.exG rfl rfl rfl rfl rfl rfl (fun hc => Exa.load flat3 (congrArg some (sel_eq hc _)) ((r2.ext h3).cell rfl)) ?_  -- 5: t8 := load
  refine ER.silG rfl rfl rfl rfl rfl rfl (fun hc => Sil.leq (congrArg some (sel_eq hc _)) rfl) ?_  -- 6: t9 := binOp
  refine ER.sil rfl rfl rfl rfl (Sil.pickAnd rfl rfl rfl) ?_  -- 7: t10 := pick
  refine ER.sil rfl rfl rfl rfl (Sil.move rfl) ?_  -- 8: t11 := move
  refine ER.silG rfl rfl rfl rfl rfl rfl (fun hc => Sil.fieldAddr Try.underlying24 rfl inf3 rfl) ?_  -- 9: t12 := fieldAddr
  refine ER.exG rfl rfl rfl rfl rfl rfl (fun hc => Exa.load flat3 (congrArg some (sel_eq hc _)) ((r2.ext h3).cell rfl)) ?_  -- 10: t13 := load
  refine ER.silG rfl rfl rfl rfl rfl rfl (fun hc => Sil.geq (congrArg some (sel_eq hc _)) rfl) ?_  -- 11: t14 := binOp
  refine ER.sil rfl rfl rfl rfl (Sil.pickAnd rfl rfl rfl) ?_  -- 12: t15 := pick
  refine ER.sil rfl rfl rfl rfl (Sil.move rfl) ?_  -- 13: t16 := move
  refine ER.silG rfl rfl rfl rfl rfl rfl (fun hc => Sil.fieldAddr Try.underlying24 rfl inf3 rfl) ?_  -- 14: t17 := fieldAddr
  refine ER.exG rfl rfl rfl rfl rfl rfl (fun hc => Exa.load flat3 (congrArg some (sel_eq hc _)) ((r2.ext h3).cell rfl)) ?_  -- 15: t18 := load
  refine ER.silG rfl rfl rfl rfl rfl rfl (fun hc => Sil.fieldAddr Try.underlying24 rfl inf3 rfl) ?_  -- 16: t19 := fieldAddr
  refine ER.exG rfl rfl rfl rfl rfl rfl (fun hc => Exa.load flat3 (congrArg some (sel_eq hc _)) ((r2.ext h3).cell rfl)) ?_  -- 17: t20 := load
  refine ER.silG rfl rfl rfl rfl rfl rfl (fun hc => Sil.sub rfl (congrArg some (sel_eq hc _))) ?_  -- 18: t21 := binOp
  refine ER.silG rfl rfl rfl rfl rfl rfl (fun hc => Sil.leq (congrArg some (sel_eq hc _)) (congrArg some (sel_eq hc _))) ?_  -- 19: t22 := binOp
  refine ER.sil rfl rfl rfl rfl (Sil.pickAnd rfl rfl rfl) ?_  -- 20: t23 := pick
  refine ER.sil rfl rfl rfl rfl (Sil.assign rfl) ?_  -- 21: t2 := assign
  refine ER.nil (fun w4 h4 => ?_)
  refine AQ.then ?_
  refine EC.ret ?_
  refine AQ.ret1 Try.results27 rfl ?_
  exact ⟨rfl, (((h1.trans h2).trans h3).trans h4)⟩

theorem refValid_any (s : Sp) (w : World) :
    Calls Try.prog 29 [spV s].toArray w fun e w' => e = .returned (.bool (validB s)) ∧ Ext w w' := by
  refine calls_of Try.func29 rfl Try.ntmps29 rfl ?_
  refine EC.seq ?_
  -- region 0  ref.go:7
  refine EC.region (fun i => [2, 1].getD i 0) [0, 1] rfl ?_
  refine ER.st rfl rfl rfl rfl (fun w1 h1 => Stp.box rfl (fun w2 h2 s2 r2 => ⟨h2, ?_⟩))  -- 0: t1 := box
  refine ER.sil rfl rfl rfl rfl (Sil.assign rfl) ?_  -- 1: t2 := assign
  refine ER.nil (fun w3 h3 => ?_)
  refine AQ.then ?_
  refine EC.seq ?_
  -- region 1  ref.go:8
  refine EC.region (fun i => [1, 0, 1, 1, 1, 0, 1, 1, 1, 1, 0, 1, 1, 1, 1, 0, 1, 0, 1, 1, 1, 1].getD i 0) [0, 1, 2, 3, 4, 5, 6, 7, 8, 9, 10, 11, 12, 13, 14, 15, 16, 17, 18, 19, 20, 21] rfl ?_
  refine ER.sil rfl rfl rfl rfl (Sil.fieldAddr Try.underlying24 rfl inf3 rfl) ?_  -- 0: t3 := fieldAddr
  refine ER.ex rfl rfl rfl rfl (Exa.load flat3 rfl ((r2.ext h3).cell rfl)) ?_  -- 1: t4 := load
  refine ER.sil rfl rfl rfl rfl (Sil.geq rfl rfl) ?_  -- 2: t5 := binOp
  refine ER.sil rfl rfl rfl rfl (Sil.move rfl) ?_  -- 3: t6 := move
  refine ER.silG rfl rfl rfl rfl rfl rfl (fun hc => Sil.fieldAddr Try.underlying24 rfl inf3 rfl) ?_  -- 4: t7 := fieldAddr
  refine ER.exG rfl rfl rfl rfl rfl rfl (fun hc => Exa.load flat3 (congrArg some (sel_eq hc _)) ((r2.ext h3).cell rfl)) ?_  -- 5: t8 := load
  refine ER.silG rfl rfl rfl rfl rfl rfl (fun hc => Sil.leq (congrArg some (sel_eq hc _)) rfl) ?_  -- 6: t9 := binOp
  refine ER.sil rfl rfl rfl rfl (Sil.pickAnd rfl rfl rfl) ?_  -- 7: t10 := pick
  refine ER.sil rfl rfl rfl rfl (Sil.move rfl) ?_  -- 8: t11 := move
  refine ER.silG rfl rfl rfl rfl rfl rfl (fun hc => Sil.fieldAddr Try.underlying24 rfl inf3 rfl) ?_  -- 9: t12 := fieldAddr
  refine ER.exG rfl rfl rfl rfl rfl rfl (fun hc => Exa.load flat3 (congrArg some (sel_eq hc _)) ((r2.ext h3).cell rfl)) ?_  -- 10: t13 := load
  refine ER.silG rfl rfl rfl rfl rfl rfl (fun hc => Sil.geq (congrArg some (sel_eq hc _)) rfl) ?_  -- 11: t14 := binOp
  refine ER.sil rfl rfl rfl rfl (Sil.pickAnd rfl rfl rfl) ?_  -- 12: t15 := pick
  refine ER.sil rfl rfl rfl rfl (Sil.move rfl) ?_  -- 13: t16 := move
  refine ER.silG rfl rfl rfl rfl rfl rfl (fun hc => Sil.fieldAddr Try.underlying24 rfl inf3 rfl) ?_  -- 14: t17 := fieldAddr
  refine ER.exG rfl rfl rfl rfl rfl rfl (fun hc => Exa.load flat3 (congrArg some (sel_eq hc _)) ((r2.ext h3).cell rfl)) ?_  -- 15: t18 := load
  refine ER.silG rfl rfl rfl rfl rfl rfl (fun hc => Sil.fieldAddr Try.underlying24 rfl inf3 rfl) ?_  -- 16: t19 := fieldAddr
  refine ER.exG rfl rfl rfl rfl rfl rfl (fun hc => Exa.load flat3 (congrArg some (sel_eq hc _)) ((r2.ext h3).cell rfl)) ?_  -- 17: t20 := load
  refine ER.silG rfl rfl rfl rfl rfl rfl (fun hc => Sil.sub rfl (congrArg some (sel_eq hc _))) ?_  -- 18: t21 := binOp
  refine ER.silG rfl rfl rfl rfl rfl rfl (fun hc => Sil.leq (congrArg some (sel_eq hc _)) (congrArg some (sel_eq hc _))) ?_  -- 19: t22 := binOp
  refine ER.sil rfl rfl rfl rfl (Sil.pickAnd rfl rfl rfl) ?_  -- 20: t23 := pick
  refine ER.sil rfl rfl rfl rfl (Sil.assign rfl) ?_  -- 21: t2 := assign
  refine ER.nil (fun w4 h4 => ?_)
  refine AQ.then ?_
  refine EC.ret ?_
  refine AQ.ret1 Try.results29 rfl ?_
  exact ⟨rfl, (((h1.trans h2).trans h3).trans h4)⟩

end Go.Proofs.Ytnnmeipmkfbpdaa
