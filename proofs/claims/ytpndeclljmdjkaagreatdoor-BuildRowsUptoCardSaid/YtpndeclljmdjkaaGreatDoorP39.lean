/- A part of the proof (texts B30). -/
import Derived.Test.YtpndeclljmdjkaaGreatDoorP10
import Derived.Test.YtpndeclljmdjkaaGreatDoorP37
set_option linter.all false
set_option maxRecDepth 100000
namespace Go.SX
open Go.XK Go.RowKit
set_option maxHeartbeats 40000000
noncomputable def F_Am:Fact E0:=bM 75 Proofs.Tryz.f75 rfl rfl rfl [.l 0,.k 94 [] [.p dD]] (fun l _ _ mC _ _ _ _ _ _ _ _ _ _ _ _ _ _ _ _ _ _ _ _ _ _ _=>.ok (.b (lp (oW (fun k=>tK mC (gt 0 l k))) oV l.length 0 ()))) [F_BT] [] (by
   intro l _ _ mC
   repeat intro _
   refine dP rfl rfl fun hk=>?_
   simp only [know]at hk
   repeat' first|refine dM ?_|apply B_<;>intro h hc|apply I_;intro h
   all_goals conv=>whnf
   refine Or.inr (Or.inr ⟨[],[9],[],[],[1,7,8],[],?_⟩);conv=>whnf
   refine⟨fun(s:Int×Unit) (t:Unit)=>0<=s.1/\s.1<=l.length/\lp (oW (fun k=>tK mC (gt 0 l k))) oV l.length 0 ()=lp (oW (fun k=>tK mC (gt 0 l k))) oV (l.length-s.1.toNat) s.1.toNat (()),fun(s:Int×Unit) (_:Unit)=>(l.length-s.1).toNat,?_⟩
   conv=>whnf
   refine eZ.mk ⟨bg,bg,rfl⟩ bA ?_
   rintro⟨(k:Int),_⟩ _ ⟨h0,h1,hS⟩
   try dsimp only at h0 h1 hS
   obtain⟨k,rfl⟩:=Int.eq_ofNat_of_zero_le (show(0:Int)<=k by omega)
   rw [Int.toNat_natCast]at hS
   repeat' first|refine dM ?_|apply B_<;>intro h hc|apply I_;intro h
   all_goals conv=>whnf
   all_goals exact l5)
def Ox (A B:Li 0) (e c:Int) (lib:Bool):Bool :=
 decide ((A.length:Int)<=4096)&&decide ((B.length:Int)<=4096)&&lp (oW fun k=>tK c (gt 0 A k)) oV A.length 0 ()&&lp (oW fun k=>tK c (gt 0 B k)) oV B.length 0 ()&&(decide (e = -1)||(tK c e&&!lib))
noncomputable def F_BS:Fact E0:=bM 30 Proofs.Tryz.f30 rfl rfl rfl [.g dD] (fun _ mB mC _ _ _ _ _ _ _ _ _ _ _ mO mP mQ _ _ _ _ _ _ _ _ _=>.ok (.b (Ox mO mP mQ mC mB))) [F_Am,F_BG] [] (by
   repeat intro _
   refine dP rfl rfl fun hk=>?_
   repeat' first|refine dM ?_|apply B_<;>intro h hc|apply I_;intro h
   all_goals conv=>whnf
   all_goals first|exact rfl)
end Go.SX
