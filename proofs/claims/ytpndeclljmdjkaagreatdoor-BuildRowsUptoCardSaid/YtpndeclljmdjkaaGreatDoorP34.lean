/- A part of the proof (texts B83). -/
import Derived.Test.YtpndeclljmdjkaaGreatDoorP10
import Derived.Test.YtpndeclljmdjkaaGreatDoorP23
set_option linter.all false
set_option maxRecDepth 100000
namespace Go.SX
open List renaming length_append -> dL
open List renaming length -> ln
open Go.XK Go.RowKit
set_option maxHeartbeats 40000000
def qm (M:Li 9) (z:Int) (a:Int) (k:Nat) (s:Li 9) (next:Li 9->Li 9):Li 9:=bif decide ((gt 9 M k:eU).At<z)then next (@HAppend.hAppend (List eU) (List eU) (List eU) _ s [({ (gt 9 M k:eU)with At:=oD (gt 9 M k:eU).At a }:eU)])else next s
def uZ (M:Li 9) (z:Int) (a:Int) (s:Li 9):Li 9:=lp (qm M z a) rC (@ln (ah 9) M) 0 s
def EN (M:Li 11) (a:Int) (k:Nat) (s:Li 11) (next:Li 11->Li 11):Li 11:=next (@HAppend.hAppend (List fQ) (List fQ) (List fQ) _ s [({ (gt 11 M k:fQ)with At:=oD (gt 11 M k:fQ).At a }:fQ)])
def rX (M:Li 11) (a:Int) (s:Li 11):Li 11:=lp (EN M a) rC (@ln (ah 11) M) 0 s
def yI (M:Li 13) (a:Int) (k:Nat) (s:Li 13) (next:Li 13->Li 13):Li 13:=next (@HAppend.hAppend (List dW) (List dW) (List dW) _ s [({ (gt 13 M k:dW)with From:=oD (gt 13 M k:dW).From a,To:=oD (gt 13 M k:dW).To a }:dW)])
def nZ (M:Li 13) (a:Int) (s:Li 13):Li 13:=lp (yI M a) rC (@ln (ah 13) M) 0 s
def Br (M:Li 17) (a:Int) (k:Nat) (s:Li 17) (next:Li 17->Li 17):Li 17:=next (@HAppend.hAppend (List iH) (List iH) (List iH) _ s [({ (gt 17 M k:iH)with From:=oD (gt 17 M k:iH).From a,To:=oD (gt 17 M k:iH).To a }:iH)])
def rD (M:Li 17) (a:Int) (s:Li 17):Li 17:=lp (Br M a) rC (@ln (ah 17) M) 0 s
def Ik (lN:Li 0) (z:Int) (v:bQ):Int:=bif decide (v.Where=2)then(bif decide (Ji lN v.Target (-1)=z)then -1 else Ji lN v.Target (-1))else v.N
def rA (M:Li 15) (lN:Li 0) (z a:Int) (k:Nat) (s:Li 46) (next:Li 46->Li 46):Li 46:=next (@HAppend.hAppend (List kR) (List kR) (List kR) _ s [(⟨0,oD (gt 15 M k:bQ).From a,oD (gt 15 M k:bQ).To a,(gt 15 M k:bQ).Name,(gt 15 M k:bQ).Where,Ik lN z (gt 15 M k:bQ)⟩:kR)])
def kH (M:Li 15) (lN:Li 0) (z a:Int) (s:Li 46):Li 46:=lp (rA M lN z a) rC (@ln (ah 15) M) 0 s
def Dm (k z a:Int) (s:Li 44):Li 44:=bif decide (k=0)&&decide (0<z)then(@HAppend.hAppend (List dQ) (List dQ) (List dQ) _ s [(⟨a,z⟩:dQ)])else s
theorem aaf {uName:ByteArray} {eO:Bool} {aj:Li 19} {ak:Li 21} {aJ:Li 23} {aT:Li 6} {aS:Li 6} {aY:Li 1} {aG:Int} {aU:Int} {aL:Int} {aF:Int} {aH:Li 27} {aD:Li 31} {ay:Li 0} {aB:Li 0} {aI:Li 35} {bJ:Int} {bD:Int} {aX:Int} {dX:Int} {mA:ByteArray} {mB:Bool} {mC:Int} {mD:Int} {mE:Int} {mF:ByteArray} {mG:ByteArray} {mH:Int} {mK:Li 21} {mL:Li 0} {mQ:Int} {mR:Li 1} {mS:Li 27} {mI:Li 38} {mJ:Li 40} {mM:Li 0} {mN:Li 42} {mO:Li 0} {mP:Li 0} {mT:Li 9} {mU:Li 11} {mV:Li 44} {mW:Li 13} {mX:Li 46} {mY:Li 17} {mZ:Li 49} {bs:Li 3} {tl:Li 3} {ok:Bool} {uO:ByteArray} {uN:ByteArray} {jW:Int} {jR:Int} {iU:Int} {nBytes:ByteArray} {iy:Li 7} {dN:Li 9} {dR:Li 11} {bI:Li 13} {dF:Li 15} {cB:Li 17} {a_:Int} (hMark:@ln (ah 9) mT<=1099510579200) (gMark:@ln (ah 9) dN<=1048576) (hLine:@ln (ah 11) mU<=1099510579200) (gLine:@ln (ah 11) dR<=1048576) (TN:@ln (ah 13) mW<=1099510579200) (gInline:@ln (ah 13) bI<=1048576) (hVar:@ln (ah 46) mX<=1099510579200) (gVar:@ln (ah 15) dF<=1048576) (Lj:@ln (ah 17) mY<=1099510579200) (gDepth:@ln (ah 17) cB<=1048576) (hEn:@ln (ah 44) mV<=1099510579200) (hV:∀ k,k<@ln (ah 15) dF->(gt 15 dF k:bQ).Where=2->BR ay (gt 15 dF k:bQ).Target):HC E0 17 16 [.loc 0 0,.agg [.str uO,.str uN,.i jW,.i jR,.i iU,.str nBytes,.aW none 7 iy,.aW none 9 dN,.aW none 11 dR,.aW none 13 bI,.aW none 15 dF,.aW none 17 cB],.i a_] [(0,Ee uName eO aj ak aJ aT aS aY aG aU aL aF aH aD ay aB aI bJ bD aX dX mA mB mC mD mE mF mG mH 1 2 mK mL 3 4 5 6 mQ mR mS 7 8 9 10 11 12 13 14 15 ok),(1,.arr 75 none 38 mI),(2,.arr 137 none 40 mJ),(3,.arr 3 none 0 mM),(4,.arr 73 none 42 mN),(5,.arr 3 none 0 mO),(6,.arr 3 none 0 mP),(7,.arr 61 none 9 mT),(8,.arr 63 none 11 mU),(9,.arr 133 none 44 mV),(10,.arr 129 none 13 mW),(11,.arr 88 none 46 mX),(12,.arr 131 none 17 mY),(13,.arr 142 none 49 mZ),(14,.arr 5 none 3 bs),(15,.arr 5 none 3 tl)] (fun s H n=>s=.jm []/\H=[(0,Ee uName eO aj ak aJ aT aS aY aG aU aL aF aH aD ay aB aI bJ bD aX dX mA mB mC mD mE mF mG mH 1 2 mK mL 3 4 5 6 mQ mR mS 16 17 21 18 19 20 13 14 15 ok),(1,.arr 75 none 38 mI),(2,.arr 137 none 40 mJ),(3,.arr 3 none 0 mM),(4,.arr 73 none 42 mN),(5,.arr 3 none 0 mO),(6,.arr 3 none 0 mP),(16,.arr 61 none 9 (uZ dN iU a_ mT)),(17,.arr 63 none 11 (rX dR a_ mU)),(21,.arr 133 none 44 (Dm jW iU a_ mV)),(18,.arr 129 none 13 (nZ bI a_ mW)),(19,.arr 88 none 46 (kH dF ay aX a_ mX)),(20,.arr 131 none 17 (rD cB a_ mY)),(13,.arr 142 none 49 mZ),(14,.arr 5 none 3 bs),(15,.arr 5 none 3 tl)]/\n=22):=by
 refine dG (DB:=[F_AA]) (IL:=[I_Es]) (WL:=[]) (fn:=Proofs.Tryz.f17) rfl rfl rfl rfl (by unfold dA;kernel_rfl) (fun hk=>?_)
 simp only [know]at hk
 repeat' first|refine dM ?_|apply B_<;>intro h hc|apply I_;intro h
 all_goals conv=>whnf
 refine Or.inl ⟨Int×Li 9,1,[],[0,2,4,6,23,24,183,184,185],fun s=>[(25,.i s.1)],fun s=>[(0,Ee uName eO aj ak aJ aT aS aY aG aU aL aF aH aD ay aB aI bJ bD aX dX mA mB mC mD mE mF mG mH 1 2 mK mL 3 4 5 6 mQ mR mS 17 8 9 10 11 12 13 14 15 ok),(17,.arr 61 none 9 s.2)],[7],fun s=>∃ k:Nat,s.1=k/\k<=@ln (ah 9) dN/\@ln (ah 9) s.2<=1099510579200+k/\uZ dN iU a_ mT=lp (qm dN iU a_) rC (@ln (ah 9) dN-k) k s.2,fun s=>((@ln (ah 9) dN:Nat)-s.1).toNat,(0,mT),⟨0,rfl,Nat.zero_le _,au,rfl⟩,?_,?_⟩
 ·exact bA
 rintro⟨(k:Int),(acc:Li 9)⟩ ⟨k,hk1,hk2,hk3,hS⟩;replace hk1:_=(k:Int):=hk1;subst hk1;replace hk2:k<=@ln (ah 9) dN:=hk2;replace hk3:@ln (ah 9) acc<=1099510579200+k:=hk3;replace hS:uZ dN iU a_ mT=lp (qm dN iU a_) rC (@ln (ah 9) dN-k) k acc:=hS;refine gK fun K0 hK0=>?_
 by_cases hkl:k<@ln (ah 9) dN
 ·have hd:decide ((k:Int)<(@ln (ah 9) dN:Nat))=true:=decide_eq_true au
  have hS2:=hS.trans (cK hkl);have hap:∀ x:ah 9,(@ln (ah 9) acc+@ln (ah 9) [x])*BT 9<=140737488355328:=fun x=>by show(_+1)*40<=_;omega
  skip
  clear hS
  repeat' first|(refine jU ?_;first|(apply aP;focus (exact hap _))|refine bO bK trivial ?_)|apply B_<;>intro h hc|apply I_;intro h
  all_goals refine iw ?_
  all_goals (refine ex3 ((k:Int)+1) bA (by(try dsimp only);first|omega) ?_;(try dsimp only);refine⟨k+1,rfl,hkl,?_,?_⟩;(focus first|(show @ln (ah 9) acc<=_;omega)|(show @ln (ah 9) (@HAppend.hAppend (Li 9) (Li 9) (Li 9) _ acc [_])<=_;rw [@dL (ah 9)];show @ln (ah 9) acc+1<=_;omega));refine hS2.trans ?_;symm;unfold qm;(repeat (first|exact rfl|refine gW (by assumption) ?_|refine gB (by assumption) ?_|refine jY (by first|assumption|omega) ?_|refine jZ (by first|assumption|omega) ?_)))
 have hd:decide ((k:Int)<(@ln (ah 9) dN:Nat))=false:=decide_eq_false au
 have hE0:uZ dN iU a_ mT=acc:=hS.trans (iZ au)
 clear hS;subst hE0;have hL0:@ln (ah 9) (uZ dN iU a_ mT)<=1099510579200+k:=hk3;clear hk3
 repeat' first|refine iF ?_|apply B_<;>intro h hc|apply I_;intro h
 all_goals refine iw ?_
 refine Or.inl ⟨Int×Li 11,1,[],[0,2,4,6,51,52,183,184,185],fun s=>[(53,.i s.1)],fun s=>[(0,Ee uName eO aj ak aJ aT aS aY aG aU aL aF aH aD ay aB aI bJ bD aX dX mA mB mC mD mE mF mG mH 1 2 mK mL 3 4 5 6 mQ mR mS 17 18 9 10 11 12 13 14 15 ok),(18,.arr 63 none 11 s.2)],[8],fun s=>∃ k:Nat,s.1=k/\k<=@ln (ah 11) dR/\@ln (ah 11) s.2<=1099510579200+k/\rX dR a_ mU=lp (EN dR a_) rC (@ln (ah 11) dR-k) k s.2,fun s=>((@ln (ah 11) dR:Nat)-s.1).toNat,(0,mU),⟨0,rfl,Nat.zero_le _,au,rfl⟩,?_,?_⟩
 ·exact bA
 rintro⟨(k:Int),(acc:Li 11)⟩ ⟨k,hk1,hk2,hk3,hS⟩;replace hk1:_=(k:Int):=hk1;subst hk1;replace hk2:k<=@ln (ah 11) dR:=hk2;replace hk3:@ln (ah 11) acc<=1099510579200+k:=hk3;replace hS:rX dR a_ mU=lp (EN dR a_) rC (@ln (ah 11) dR-k) k acc:=hS;refine gK fun K1 hK1=>?_
 by_cases hkl:k<@ln (ah 11) dR
 ·have hd:decide ((k:Int)<(@ln (ah 11) dR:Nat))=true:=decide_eq_true au
  have hS2:=hS.trans (cK hkl);have hap:∀ x:ah 11,(@ln (ah 11) acc+@ln (ah 11) [x])*BT 11<=140737488355328:=fun x=>by show(_+1)*40<=_;omega
  skip
  clear hS
  repeat' first|(refine jU ?_;first|(apply aP;focus (exact hap _))|refine bO bK trivial ?_)|apply B_<;>intro h hc|apply I_;intro h
  all_goals refine iw ?_
  all_goals (refine ex3 ((k:Int)+1) bA (by(try dsimp only);first|omega) ?_;(try dsimp only);refine⟨k+1,rfl,hkl,?_,?_⟩;(focus first|(show @ln (ah 11) acc<=_;omega)|(show @ln (ah 11) (@HAppend.hAppend (Li 11) (Li 11) (Li 11) _ acc [_])<=_;rw [@dL (ah 11)];show @ln (ah 11) acc+1<=_;omega));refine hS2.trans ?_;symm;unfold EN;(repeat (first|exact rfl|refine gW (by assumption) ?_|refine gB (by assumption) ?_|refine jY (by first|assumption|omega) ?_|refine jZ (by first|assumption|omega) ?_)))
 have hd:decide ((k:Int)<(@ln (ah 11) dR:Nat))=false:=decide_eq_false au
 have hE1:rX dR a_ mU=acc:=hS.trans (iZ au)
 clear hS;subst hE1;have hL1:@ln (ah 11) (rX dR a_ mU)<=1099510579200+k:=hk3;clear hk3
 repeat' first|refine iF ?_|apply B_<;>intro h hc|apply I_;intro h
 all_goals refine iw ?_
 refine Or.inl ⟨Int×Li 13,1,[],[0,2,4,6,74,75,183,184,185],fun s=>[(76,.i s.1)],fun s=>[(0,Ee uName eO aj ak aJ aT aS aY aG aU aL aF aH aD ay aB aI bJ bD aX dX mA mB mC mD mE mF mG mH 1 2 mK mL 3 4 5 6 mQ mR mS 17 18 9 19 11 12 13 14 15 ok),(19,.arr 129 none 13 s.2)],[10],fun s=>∃ k:Nat,s.1=k/\k<=@ln (ah 13) bI/\@ln (ah 13) s.2<=1099510579200+k/\nZ bI a_ mW=lp (yI bI a_) rC (@ln (ah 13) bI-k) k s.2,fun s=>((@ln (ah 13) bI:Nat)-s.1).toNat,(0,mW),⟨0,rfl,Nat.zero_le _,au,rfl⟩,?_,?_⟩
 ·exact bA
 rintro⟨(k:Int),(acc:Li 13)⟩ ⟨k,hk1,hk2,hk3,hS⟩;replace hk1:_=(k:Int):=hk1;subst hk1;replace hk2:k<=@ln (ah 13) bI:=hk2;replace hk3:@ln (ah 13) acc<=1099510579200+k:=hk3;replace hS:nZ bI a_ mW=lp (yI bI a_) rC (@ln (ah 13) bI-k) k acc:=hS;refine gK fun K2 hK2=>?_
 by_cases hkl:k<@ln (ah 13) bI
 ·have hd:decide ((k:Int)<(@ln (ah 13) bI:Nat))=true:=decide_eq_true au
  have hS2:=hS.trans (cK hkl);have hap:∀ x:ah 13,(@ln (ah 13) acc+@ln (ah 13) [x])*BT 13<=140737488355328:=fun x=>by show(_+1)*64<=_;omega
  skip
  clear hS
  repeat' first|(refine jU ?_;first|(apply aP;focus (exact hap _))|refine bO bK trivial ?_)|apply B_<;>intro h hc|apply I_;intro h
  all_goals refine iw ?_
  all_goals (refine ex3 ((k:Int)+1) bA (by(try dsimp only);first|omega) ?_;(try dsimp only);refine⟨k+1,rfl,hkl,?_,?_⟩;(focus first|(show @ln (ah 13) acc<=_;omega)|(show @ln (ah 13) (@HAppend.hAppend (Li 13) (Li 13) (Li 13) _ acc [_])<=_;rw [@dL (ah 13)];show @ln (ah 13) acc+1<=_;omega));refine hS2.trans ?_;symm;unfold yI;(repeat (first|exact rfl|refine gW (by assumption) ?_|refine gB (by assumption) ?_|refine jY (by first|assumption|omega) ?_|refine jZ (by first|assumption|omega) ?_)))
 have hd:decide ((k:Int)<(@ln (ah 13) bI:Nat))=false:=decide_eq_false au
 have hE2:nZ bI a_ mW=acc:=hS.trans (iZ au)
 clear hS;subst hE2;have hL2:@ln (ah 13) (nZ bI a_ mW)<=1099510579200+k:=hk3;clear hk3
 repeat' first|refine iF ?_|apply B_<;>intro h hc|apply I_;intro h
 all_goals refine iw ?_
 refine Or.inl ⟨Int×Li 46,1,[],[0,2,4,6,102,103,183,184,185],fun s=>[(104,.i s.1)],fun s=>[(0,Ee uName eO aj ak aJ aT aS aY aG aU aL aF aH aD ay aB aI bJ bD aX dX mA mB mC mD mE mF mG mH 1 2 mK mL 3 4 5 6 mQ mR mS 17 18 9 19 20 12 13 14 15 ok),(20,.arr 88 none 46 s.2)],[11],fun s=>∃ k:Nat,s.1=k/\k<=@ln (ah 15) dF/\@ln (ah 46) s.2<=1099510579200+k/\kH dF ay aX a_ mX=lp (rA dF ay aX a_) rC (@ln (ah 15) dF-k) k s.2,fun s=>((@ln (ah 15) dF:Nat)-s.1).toNat,(0,mX),⟨0,rfl,Nat.zero_le _,au,rfl⟩,?_,?_⟩
 ·exact bA
 rintro⟨(k:Int),(acc:Li 46)⟩ ⟨k,hk1,hk2,hk3,hS⟩;replace hk1:_=(k:Int):=hk1;subst hk1;replace hk2:k<=@ln (ah 15) dF:=hk2;replace hk3:@ln (ah 46) acc<=1099510579200+k:=hk3;replace hS:kH dF ay aX a_ mX=lp (rA dF ay aX a_) rC (@ln (ah 15) dF-k) k acc:=hS;refine gK fun K3 hK3=>?_
 by_cases hkl:k<@ln (ah 15) dF
 ·have hd:decide ((k:Int)<(@ln (ah 15) dF:Nat))=true:=decide_eq_true au
  have hS2:=hS.trans (cK hkl);have hap:∀ x:ah 46,(@ln (ah 46) acc+@ln (ah 46) [x])*BT 46<=140737488355328:=fun x=>by show(_+1)*56<=_;omega
  have hvk:=hV k hkl;have key:∀ q q2:Int,q=q2->lp (rA dF ay aX a_) rC (@ln (ah 15) dF-(k+1)) (k+1) (@HAppend.hAppend (List kR) (List kR) (List kR) _ acc [(⟨0,oD (gt 15 dF k:bQ).From a_,oD (gt 15 dF k:bQ).To a_,(gt 15 dF k:bQ).Name,(gt 15 dF k:bQ).Where,q⟩:kR)])=lp (rA dF ay aX a_) rC (@ln (ah 15) dF-(k+1)) (k+1) (@HAppend.hAppend (List kR) (List kR) (List kR) _ acc [(⟨0,oD (gt 15 dF k:bQ).From a_,oD (gt 15 dF k:bQ).To a_,(gt 15 dF k:bQ).Name,(gt 15 dF k:bQ).Where,q2⟩:kR)]):=fun q q2 h=>by rw [h]
  clear hS
  repeat' first|(refine jU ?_;first|(apply aP;focus (first|exact hap _|exact hvk (by first|assumption|simp_all)))|refine bO bK trivial ?_)|apply B_<;>intro h hc|apply I_;intro h
  all_goals refine iw ?_
  all_goals (refine ex3 ((k:Int)+1) bA (by(try dsimp only);first|omega) ?_;(try dsimp only);refine⟨k+1,rfl,hkl,?_,?_⟩;(focus first|(show @ln (ah 46) acc<=_;omega)|(show @ln (ah 46) (@HAppend.hAppend (Li 46) (Li 46) (Li 46) _ acc [_])<=_;rw [@dL (ah 46)];show @ln (ah 46) acc+1<=_;omega));refine hS2.trans ?_;symm;refine key _ _ ?_;unfold Ik;(repeat (first|exact rfl|refine gW (by assumption) ?_|refine gB (by assumption) ?_|refine jY (by first|assumption|omega) ?_|refine jZ (by first|assumption|omega) ?_)))
 have hd:decide ((k:Int)<(@ln (ah 15) dF:Nat))=false:=decide_eq_false au
 have hE3:kH dF ay aX a_ mX=acc:=hS.trans (iZ au)
 clear hS;subst hE3;have hL3:@ln (ah 46) (kH dF ay aX a_ mX)<=1099510579200+k:=hk3;clear hk3
 repeat' first|refine iF ?_|apply B_<;>intro h hc|apply I_;intro h
 all_goals refine iw ?_
 refine Or.inl ⟨Int×Li 17,1,[],[2,4,6,152,153,183,184,185],fun s=>[(154,.i s.1)],fun s=>[(0,Ee uName eO aj ak aJ aT aS aY aG aU aL aF aH aD ay aB aI bJ bD aX dX mA mB mC mD mE mF mG mH 1 2 mK mL 3 4 5 6 mQ mR mS 17 18 9 19 20 21 13 14 15 ok),(21,.arr 131 none 17 s.2)],[12],fun s=>∃ k:Nat,s.1=k/\k<=@ln (ah 17) cB/\@ln (ah 17) s.2<=1099510579200+k/\rD cB a_ mY=lp (Br cB a_) rC (@ln (ah 17) cB-k) k s.2,fun s=>((@ln (ah 17) cB:Nat)-s.1).toNat,(0,mY),⟨0,rfl,Nat.zero_le _,au,rfl⟩,?_,?_⟩
 ·exact bA
 rintro⟨(k:Int),(acc:Li 17)⟩ ⟨k,hk1,hk2,hk3,hS⟩;replace hk1:_=(k:Int):=hk1;subst hk1;replace hk2:k<=@ln (ah 17) cB:=hk2;replace hk3:@ln (ah 17) acc<=1099510579200+k:=hk3;replace hS:rD cB a_ mY=lp (Br cB a_) rC (@ln (ah 17) cB-k) k acc:=hS;refine gK fun K4 hK4=>?_
 by_cases hkl:k<@ln (ah 17) cB
 ·have hd:decide ((k:Int)<(@ln (ah 17) cB:Nat))=true:=decide_eq_true au
  have hS2:=hS.trans (cK hkl);have hap:∀ x:ah 17,(@ln (ah 17) acc+@ln (ah 17) [x])*BT 17<=140737488355328:=fun x=>by show(_+1)*32<=_;omega
  skip
  clear hS
  repeat' first|(refine jU ?_;first|(apply aP;focus (exact hap _))|refine bO bK trivial ?_)|apply B_<;>intro h hc|apply I_;intro h
  all_goals refine iw ?_
  all_goals (refine ex3 ((k:Int)+1) bA (by(try dsimp only);first|omega) ?_;(try dsimp only);refine⟨k+1,rfl,hkl,?_,?_⟩;(focus first|(show @ln (ah 17) acc<=_;omega)|(show @ln (ah 17) (@HAppend.hAppend (Li 17) (Li 17) (Li 17) _ acc [_])<=_;rw [@dL (ah 17)];show @ln (ah 17) acc+1<=_;omega));refine hS2.trans ?_;symm;unfold Br;(repeat (first|exact rfl|refine gW (by assumption) ?_|refine gB (by assumption) ?_|refine jY (by first|assumption|omega) ?_|refine jZ (by first|assumption|omega) ?_)))
 have hd:decide ((k:Int)<(@ln (ah 17) cB:Nat))=false:=decide_eq_false au
 have hE4:rD cB a_ mY=acc:=hS.trans (iZ au)
 clear hS;subst hE4;have hL4:@ln (ah 17) (rD cB a_ mY)<=1099510579200+k:=hk3;clear hk3;have hen:∀ x:ah 44,(@ln (ah 44) mV+@ln (ah 44) [x])*BT 44<=140737488355328:=fun x=>by show(_+1)*16<=_;omega
 repeat' first|(refine jU ?_;first|(apply aP;focus (exact hen _))|refine bO bK trivial ?_)|apply B_<;>intro h hc|apply I_;intro h
 all_goals refine iw ?_
 ·refine⟨[],[],_,_,[17,18,19,20,21,23],⟨rfl,rfl,rfl⟩,?_⟩
  conv=>whnf
  refine w_ ?_;repeat' (first|((with_reducible apply And.intro)<;>(first|(with_reducible refine iK ?_;apply rfl)|(with_reducible refine eY ?_;apply rfl)|(refine w_ ?_)))|(with_reducible apply trivial)|apply rfl|apply(Or.inl rfl)|apply(Or.inr rfl)|apply(Or.inr (Or.inl rfl))|apply trivial|(apply And.intro<;>(refine w_ ?_)))
  all_goals first|exact gW (by assumption) rfl
 ·refine⟨[],[],_,_,[17,18,19,20,21,9],⟨rfl,rfl,rfl⟩,?_⟩
  conv=>whnf
  refine w_ ?_;repeat' (first|((with_reducible apply And.intro)<;>(first|(with_reducible refine iK ?_;apply rfl)|(with_reducible refine eY ?_;apply rfl)|(refine w_ ?_)))|(with_reducible apply trivial)|apply rfl|apply(Or.inl rfl)|apply(Or.inr rfl)|apply(Or.inr (Or.inl rfl))|apply trivial|(apply And.intro<;>(refine w_ ?_)))
  all_goals first|exact gB (by assumption) rfl
end Go.SX
