/- A part of the proof (texts B81). -/
import Derived.Test.YtpndeclljmdjkaaGreatDoorP15
import Derived.Test.YtpndeclljmdjkaaGreatDoorP16
set_option linter.all false
set_option maxRecDepth 100000
namespace Go.SX
open List renaming length -> ln
open Go.XK Go.RowKit
set_option maxHeartbeats 40000000
abbrev ndA (N:Li 19) (i:Int):aM:=gt 19 N i.toNat
def sS (N:Li 19) (I:Li 21) (i:Int):ByteArray :=
 bif decide (i<0)||decide ((@ln (ah 19) N:Int)<=i)then⟨#[]⟩else Uf (ndB N I (ndA N i))
def udFormB (n:aM):ByteArray:=jf n.Kind++jf n.Align++jf n.Size++pR n.Bytes
def BQ (N:Li 19) (i:Int):ByteArray :=
 bif decide (i<0)||decide ((@ln (ah 19) N:Int)<=i)then⟨#[]⟩
 else bif decide ((ndA N i).Kind<0)||decide ((ndA N i).Align<0)||decide ((ndA N i).Size<0)then⟨#[]⟩
 else Uf (udFormB (ndA N i))
theorem Y1 {N:Li 19} {I:Li 21} {n:aM} (hb:ndP N I n):((ndB N I n).size:Int)<=140737488355328:=by
 have h1:(n.Obj.size:Int)<=1048576:=hb.obj;have h2:(n.gD.size:Int)<=1048576:=hb.sec;have h3:(n.Bytes.size:Int)<=1048576:=hb.bytes;have q1:=bY n.Obj;have q2:=bY n.gD;have q3:=bY n.Bytes;have q4:=wi3 n.Kind n.Align n.Size;have s1:(lRef N I n.Refs).size<=4398046511115:=iG hb.refs.1 fun j hj=>Cw (hb.refs.2 j hj)
 have s2:(Tq n.Marks).size<=4398046511115:=iG hb.marks.1 fun j hj=>zM (hb.marks.2 j hj)
 have s3:(Tt n.Lines).size<=4398046511115:=iG hb.lines.1 fun j hj=>zO (hb.lines.2 j hj)
 have s4:(lInl n.dK).size<=4398046511115:=iG hb.inls.1 fun j hj=>CY (hb.inls.2 j hj)
 have s5:(lVar N I n.Vars).size<=4398046511115:=iG hb.vars.1 fun j hj=>BL (hb.vars.2 j hj)
 have s6:(lDep n.gy).size<=4398046511115:=iG hb.deps.1 fun j hj=>Dj
 unfold ndB
 repeat rw [ByteArray.size_append]
 omega
noncomputable def F_Dm:Fact E0:=bM 51 Proofs.Tryz.f51 rfl rfl rfl [.g dH,.i] (fun _ _ aj ak _ _ _ _ _ _ _ _ _ _ i=>.ob (0<=i->i<(@ln (ah 19) aj:Nat)->ndP aj ak (ndA aj i)) (.str (sS aj ak i))) [F_EW,F_AU] [] (by
   intro _ _ aj ak _ _ _ _ _ _ _ _ _ _ i;refine fD rfl rfl fun hb hk=>?_
   generalize hz:sS aj ak i=z
   repeat' first|(refine w_ ?_;first|(apply aP;focus (first|exact hb au au|exact Y1 (hb au au)))|refine bO bK trivial ?_)|apply B_<;>intro h hc|apply I_;intro h
   all_goals conv=>whnf
   all_goals (unfold sS at hz;(repeat (first|replace hz:=qV (by assumption) hz|replace hz:=nE (by assumption) hz|replace hz:=wT (by first|assumption|omega) hz|replace hz:=wX (by first|assumption|omega) hz));subst hz;exact bA))
noncomputable def F_Do:Fact E0:=bM 52 Proofs.Tryz.f52 rfl rfl rfl [.g dH,.i] (fun _ _ aj _ _ _ _ _ _ _ _ _ _ _ i=>.ob (0<=i->i<(@ln (ah 19) aj:Nat)->jT (ndA aj i).Bytes) (.str (BQ aj i))) [Pg,RD,F_AU] [] (by
   intro _ _ aj _ _ _ _ _ _ _ _ _ _ _ i;refine fD rfl rfl fun hb hk=>?_
   have q1:=sO (gt 19 aj i.toNat:aM).Kind;have q2:=sO (gt 19 aj i.toNat:aM).Align;have q3:=sO (gt 19 aj i.toNat:aM).Size;have q4:=bY (gt 19 aj i.toNat:aM).Bytes;have hS:0<=i->i<(@ln (ah 19) aj:Nat)->((gt 19 aj i.toNat:aM).Bytes.size:Int)<=1048576:=hb;generalize hz:BQ aj i=z
   repeat' first|(refine w_ ?_;first|(apply aP;focus ((have hS2:=hS au au)<;>(repeat rw [ByteArray.size_append])<;>omega))|refine bO bK trivial ?_)|apply B_<;>intro h hc|apply I_;intro h
   all_goals conv=>whnf
   all_goals (unfold BQ at hz;(repeat (first|replace hz:=qV (by assumption) hz|replace hz:=nE (by assumption) hz|replace hz:=wT (by first|assumption|omega) hz|replace hz:=wX (by first|assumption|omega) hz));subst hz;exact bA))
end Go.SX
