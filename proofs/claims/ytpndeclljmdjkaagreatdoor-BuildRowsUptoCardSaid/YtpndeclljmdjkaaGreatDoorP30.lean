/- A part of the proof (texts B70). -/
import Derived.Test.YtpndeclljmdjkaaGreatDoorP10
import Derived.Test.YtpndeclljmdjkaaGreatDoorP22
import Derived.Test.YtpndeclljmdjkaaGreatDoorP29
set_option linter.all false
set_option maxRecDepth 100000
namespace Go.SX
open Go.XK Go.RowKit
set_option maxHeartbeats 40000000
def Xv (nm:ByteArray) (L:Li 1) (v:Li 27):Bool:=jK nm&&La L 64&&j5 v
noncomputable def F_Dx:Fact E0:=bM 34 Proofs.Tryz.f34 rfl rfl rfl [.g dH] (fun uName _ _ _ _ _ _ aY _ _ _ _ aH _=>.ob (vOk aH) (.b (Xv uName aY aH))) [WA,F_EV,F_Eg] [] (by
   repeat intro _
   refine fD rfl rfl fun hb hk=>?_
   repeat' first|(refine w_ ?_;first|(apply aP;focus (exact fun _=>hb))|refine bO bK @hb ?_)|apply B_<;>intro h hc|apply I_;intro h
   all_goals conv=>whnf
   all_goals rfl)
def lg (uName:ByteArray) (aY:Li 1) (aH:Li 27) (aj:Li 19) (ak:Li 21) (aJ:Li 23) (eO:Bool) (aT aS:Li 6) (e:bE) (aD:Li 31):Bool :=
 bif !Xv uName aY aH then false else bif !PW aj then false else bif !uq aj ak then false else bif !xX aj ak then false else bif !vZ aj ak aJ then false else bif !Ak aj ak eO aT aS e then false else bif !sQ aj ak aD then false else true
noncomputable def F_Dp:Fact E0:=bM 12 Proofs.Tryz.f12 rfl rfl rfl [.g dH] (fun uName eO aj ak aJ aT aS aY aG aU aL aF aH aD=>.ob (vOk aH) (.b (lg uName aY aH aj ak aJ eO aT aS ⟨aG,aU,aL,aF⟩ aD))) [F_Dx,F_Dz,F_EA,F_Dy,F_EE,F_Ds,F_Du] [] (by
   repeat intro _
   refine fD rfl rfl fun hb hk=>?_
   repeat' first|refine s_ bK @hb ?_|apply B_<;>intro h hc|apply I_;intro h
   all_goals conv=>whnf
   refine Or.inr (Or.inl ⟨8,?_⟩)
   repeat' first|refine s_ bK @hb ?_|apply B_<;>intro h hc|apply I_;intro h
   all_goals conv=>whnf
   all_goals first
    |(unfold lg;all_goals exact lI))
end Go.SX
