/- A part of the proof (texts B32, B33). -/
import Derived.Test.YtpndeclljmdjkaaGreatDoorP10
import Derived.Test.YtpndeclljmdjkaaGreatDoorP37
set_option linter.all false
set_option maxRecDepth 100000
namespace Go.SX
open Int renaming eq_ofNat_of_zero_le -> cO,toNat_natCast -> bP
open Go.XK Go.RowKit
set_option maxHeartbeats 40000000
noncomputable section
def F_Az:Fact E0:=bM 106 Proofs.Tryz.f106 rfl rfl rfl [.g nU] (fun jQ gV I5 _ _ _=>.ok (.jm [.i jQ,.i gV,.i I5])) [] [] (by
   repeat intro _
   refine dP rfl rfl fun hk=>?_
   repeat' first|refine dM ?_|apply B_<;>intro h hc|apply I_;intro h
   all_goals conv=>whnf
   all_goals exact bA)
def F_BB:Fact E0:=bM 110 Proofs.Tryz.f110 rfl rfl rfl [.g wH] (fun jQ gV I5 _ _ _=>.ok (.jm [.i jQ,.i gV,.i I5])) [] [] (by
   repeat intro _
   refine dP rfl rfl fun hk=>?_
   repeat' first|refine dM ?_|apply B_<;>intro h hc|apply I_;intro h
   all_goals conv=>whnf
   all_goals exact bA)
def F_BD:Fact E0:=bM 114 Proofs.Tryz.f114 rfl rfl rfl [.g fC] (fun jQ gV I5 _=>.ok (.jm [.i jQ,.i gV,.i I5])) [] [] (by
   repeat intro _
   refine dP rfl rfl fun hk=>?_
   repeat' first|refine dM ?_|apply B_<;>intro h hc|apply I_;intro h
   all_goals conv=>whnf
   all_goals exact bA)
def TD (c:Int) (f:Nat->Int×Int×Int) (k:Nat) (b:Int) (next:Int->Bool):Bool :=
 bif !(decide ((f k).1=0)&&decide (b<=(f k).2.1)&&decide ((f k).2.1<=(f k).2.2)&&decide ((f k).2.2<=c))then false else next (f k).2.1
def J3 (_:Int):Bool:=true
def pJ (c:Int) (f:Nat->Int×Int×Int) (n:Nat):Bool:=lp (TD c f) J3 n 0 0
def I_FC:je E0:=kC 107 Proofs.Tryz.f107 rfl rfl
def I_FM:je E0:=kC 194 Proofs.Tryz.f194 rfl rfl
def F_BO:Fact E0:=bM 105 Proofs.Tryz.f105 rfl rfl rfl [.g dD,.l 13,.k 106 [] []] (fun _ _ mC _ _ _ _ _ _ _ _ _ _ _ _ _ _ _ _ _ _ _ _ _ _ _ l=>.ok (.b (pJ mC (fun k=>((gt 13 l k).gD,(gt 13 l k).From,(gt 13 l k).To)) l.length))) [F_Az] [I_FC,I_FM] (by
   intro _ _ mC _ _ _ _ _ _ _ _ _ _ _ _ _ _ _ _ _ _ _ _ _ _ _ l;refine dP rfl rfl fun hk=>?_
   repeat' first|refine dM ?_|apply B_<;>intro h hc|apply I_;intro h
   all_goals conv=>whnf
   refine Or.inr (Or.inr ⟨[],[9],[],[2],[1,7,8],[],?_⟩);conv=>whnf
   refine⟨fun(s:Int×Unit) (t:(Int×Unit)×Unit)=>0<=s.1/\s.1<=l.length/\pJ mC (fun k=>((gt 13 l k).gD,(gt 13 l k).From,(gt 13 l k).To)) l.length=lp (TD mC (fun k=>((gt 13 l k).gD,(gt 13 l k).From,(gt 13 l k).To))) J3 (l.length-s.1.toNat) s.1.toNat (t.1.1),fun(s:Int×Unit) (_:(Int×Unit)×Unit)=>(l.length-s.1).toNat,?_⟩
   conv=>whnf
   refine eZ.mk ⟨bg,bg,rfl⟩ bA ?_
   rintro⟨(k:Int),_⟩ ⟨(y0:(Int×Unit)),_⟩ ⟨h0,h1,hS⟩
   try dsimp only at h0 h1 hS
   obtain⟨k,rfl⟩:=cO (show(0:Int)<=k by omega)
   rw [bP]at hS
   repeat' first|refine dM ?_|apply B_<;>intro h hc|apply I_;intro h
   all_goals conv=>whnf
   all_goals exact l5)
def I_FE:je E0:=kC 111 Proofs.Tryz.f111 rfl rfl
def I_FN:je E0:=kC 195 Proofs.Tryz.f195 rfl rfl
def F_BP:Fact E0:=bM 109 Proofs.Tryz.f109 rfl rfl rfl [.g dD,.l 46,.k 110 [] []] (fun _ _ mC _ _ _ _ _ _ _ _ _ _ _ _ _ _ _ _ _ _ _ _ _ _ _ l=>.ok (.b (pJ mC (fun k=>((gt 46 l k).gD,(gt 46 l k).From,(gt 46 l k).To)) l.length))) [F_BB] [I_FE,I_FN] (by
   intro _ _ mC _ _ _ _ _ _ _ _ _ _ _ _ _ _ _ _ _ _ _ _ _ _ _ l;refine dP rfl rfl fun hk=>?_
   repeat' first|refine dM ?_|apply B_<;>intro h hc|apply I_;intro h
   all_goals conv=>whnf
   refine Or.inr (Or.inr ⟨[],[9],[],[2],[1,7,8],[],?_⟩);conv=>whnf
   refine⟨fun(s:Int×Unit) (t:(Int×Unit)×Unit)=>0<=s.1/\s.1<=l.length/\pJ mC (fun k=>((gt 46 l k).gD,(gt 46 l k).From,(gt 46 l k).To)) l.length=lp (TD mC (fun k=>((gt 46 l k).gD,(gt 46 l k).From,(gt 46 l k).To))) J3 (l.length-s.1.toNat) s.1.toNat (t.1.1),fun(s:Int×Unit) (_:(Int×Unit)×Unit)=>(l.length-s.1).toNat,?_⟩
   conv=>whnf
   refine eZ.mk ⟨bg,bg,rfl⟩ bA ?_
   rintro⟨(k:Int),_⟩ ⟨(y0:(Int×Unit)),_⟩ ⟨h0,h1,hS⟩
   try dsimp only at h0 h1 hS
   obtain⟨k,rfl⟩:=cO (show(0:Int)<=k by omega)
   rw [bP]at hS
   repeat' first|refine dM ?_|apply B_<;>intro h hc|apply I_;intro h
   all_goals conv=>whnf
   all_goals exact l5)
def I_Ez:je E0:=kC 115 Proofs.Tryz.f115 rfl rfl
def I_FL:je E0:=kC 196 Proofs.Tryz.f196 rfl rfl
def F_BN:Fact E0:=bM 113 Proofs.Tryz.f113 rfl rfl rfl [.g dD,.l 17,.k 114 [] []] (fun _ _ mC _ _ _ _ _ _ _ _ _ _ _ _ _ _ _ _ _ _ _ _ _ _ _ l=>.ok (.b (pJ mC (fun k=>((gt 17 l k).gD,(gt 17 l k).From,(gt 17 l k).To)) l.length))) [F_BD] [I_Ez,I_FL] (by
   intro _ _ mC _ _ _ _ _ _ _ _ _ _ _ _ _ _ _ _ _ _ _ _ _ _ _ l;refine dP rfl rfl fun hk=>?_
   repeat' first|refine dM ?_|apply B_<;>intro h hc|apply I_;intro h
   all_goals conv=>whnf
   refine Or.inr (Or.inr ⟨[],[9],[],[2],[1,7,8],[],?_⟩);conv=>whnf
   refine⟨fun(s:Int×Unit) (t:(Int×Unit)×Unit)=>0<=s.1/\s.1<=l.length/\pJ mC (fun k=>((gt 17 l k).gD,(gt 17 l k).From,(gt 17 l k).To)) l.length=lp (TD mC (fun k=>((gt 17 l k).gD,(gt 17 l k).From,(gt 17 l k).To))) J3 (l.length-s.1.toNat) s.1.toNat (t.1.1),fun(s:Int×Unit) (_:(Int×Unit)×Unit)=>(l.length-s.1).toNat,?_⟩
   conv=>whnf
   refine eZ.mk ⟨bg,bg,rfl⟩ bA ?_
   rintro⟨(k:Int),_⟩ ⟨(y0:(Int×Unit)),_⟩ ⟨h0,h1,hS⟩
   try dsimp only at h0 h1 hS
   obtain⟨k,rfl⟩:=cO (show(0:Int)<=k by omega)
   rw [bP]at hS
   repeat' first|refine dM ?_|apply B_<;>intro h hc|apply I_;intro h
   all_goals conv=>whnf
   all_goals exact l5)
def ZO (c:Int) (E:Li 44) (k:Nat) (b:Int) (next:Int->Bool):Bool :=
 bif !(jX (gt 44 E k).At b c&&jX (gt 44 E k).Size 1 (IntKind.i64.wrap (c-(gt 44 E k).At)))then false else next (IntKind.i64.wrap ((gt 44 E k).At+(gt 44 E k).Size))
def I_FD:je E0:=kC 103 Proofs.Tryz.f103 rfl rfl
def I_FJ:je E0:=kC 104 Proofs.Tryz.f104 rfl rfl
def QW (c:Int) (E:Li 44):Bool:=lp (ZO c E) J3 E.length 0 0
def F_Aw:Fact E0:=bM 32 Proofs.Tryz.f32 rfl rfl rfl [.g dD] (fun _ _ mC _ mE _ _ _ _ _ _ _ _ _ _ _ _ _ _ mT mU mV mW mX mY _=>.ok (.b (lp (oW (fun k=>zR mE mT k (gt 9 mT k))) oV mT.length 0 ()&&lp (oW (fun k=>zS mC mU k (gt 11 mU k))) oV mU.length 0 ()&&QW mC mV&&(pJ mC (fun k=>((gt 13 mW k).gD,(gt 13 mW k).From,(gt 13 mW k).To)) mW.length&&lp (oW (fun k=>J4 (gt 13 mW k))) oV mW.length 0 ())&&(pJ mC (fun k=>((gt 46 mX k).gD,(gt 46 mX k).From,(gt 46 mX k).To)) mX.length&&lp (oW (fun k=>Hf mE (gt 46 mX k))) oV mX.length 0 ())&&(pJ mC (fun k=>((gt 17 mY k).gD,(gt 17 mY k).From,(gt 17 mY k).To)) mY.length&&lp (oW (fun k=>J5 (gt 17 mY k))) oV mY.length 0 ())))) [F_Ah,F_Ag,F_BO,F_Af,F_BP,F_Ak,F_BN,F_Ae,Dw] [I_FD,I_FJ] (by
   intro _ _ mC _ _ _ _ _ _ _ _ _ _ _ _ _ _ _ _ _ _ mV
   repeat intro _
   refine dP rfl rfl fun hk=>?_
   generalize he:QW mC mV=ee
   repeat' first|(refine w_ ?_;first|(apply aP;focus (exact Nat.le_refl _))|refine bO bK trivial ?_)|apply B_<;>intro h hc|apply I_;intro h
   all_goals conv=>whnf
   refine Or.inr (Or.inr ⟨[],[9],[],[2],[1,7,8],[],?_⟩);conv=>whnf
   refine⟨fun(s:Int×Unit) (t:(Int×Unit)×Unit)=>0<=s.1/\s.1<=mV.length/\ee=lp (ZO mC mV) J3 (mV.length-s.1.toNat) s.1.toNat t.1.1,fun(s:Int×Unit) _=>(mV.length-s.1).toNat,?_⟩
   conv=>whnf
   refine eZ.mk ⟨bg,bg,he.symm⟩ bA ?_
   rintro⟨(k:Int),_⟩ ⟨⟨(b1:Int),_⟩,_⟩ ⟨h0,h1,hS⟩
   try dsimp only at h0 h1 hS
   obtain⟨k,rfl⟩:=cO h0;rw [bP]at hS
   repeat' first|(refine w_ ?_;first|(apply aP;focus (exact Nat.le_refl _))|refine bO bK trivial ?_)|apply B_<;>intro h hc|apply I_;intro h
   all_goals conv=>whnf
   all_goals first
    |((try dsimp only);refine⟨au,au,hS.trans ((cK au).trans ?_)⟩;rw [show((k:Int)+1).toNat=k+1 by omega];symm;unfold ZO;(try dsimp only);all_goals exact lI)
    |(have e1:ee=true:=hS.trans (iZ au);subst e1;exact rfl)
    |(
       have e1:ee=false:=Eq.trans (hS.trans (cK au)) (Eq.symm (gW (by assumption) rfl))
       subst e1;exact rfl))
end
end Go.SX
