/- A part of the proof (texts B85). -/
import Derived.Test.YtpndeclljmdjkaaGreatDoorP10
import Derived.Test.YtpndeclljmdjkaaGreatDoorP23
set_option linter.all false
set_option maxRecDepth 100000
namespace Go.SX
open List renaming length_append -> dL
open List renaming length -> ln
open Go.XK Go.RowKit
set_option maxHeartbeats 40000000
def Im (M:Li 23) (lN:Li 0) (k:Nat) (s:Li 40) (next:Li 40->Li 40):Li 40:=next (@HAppend.hAppend (List jL) (List jL) (List jL) _ s [(⟨(gt 23 M k:jd).Name,(gt 23 M k:jd).Version,(gt 23 M k:jd).Main,(gt 23 M k:jd).Kind,oD (nJ lN (gt 23 M k:jd).Node.toNat) (gt 23 M k:jd).Off,(gt 23 M k:jd).Size⟩:jL)])
def Dn (M:Li 23) (lN:Li 0) (s:Li 40):Li 40:=lp (Im M lN) rC (@ln (ah 23) M) 0 s
def Il (M:Li 6) (lN:Li 0) (k:Nat) (s:Li 0) (next:Li 0->Li 0):Li 0:=next (@HAppend.hAppend (List Int) (List Int) (List Int) _ s [(Ji lN (gt 6 M k:bE) (-1):Int)])
def vI (M:Li 6) (lN:Li 0) (s:Li 0):Li 0:=lp (Il M lN) rC (@ln (ah 6) M) 0 s
def O4 (M:Li 31) (N:Li 19) (lN:Li 0) (k:Nat) (s:Li 49) (next:Li 49->Li 49):Li 49:=next (@HAppend.hAppend (List rZ) (List rZ) (List rZ) _ s [(⟨(gt 19 N (gt 31 M k:dZ).Node.toNat:aM).Obj,(gt 19 N (gt 31 M k:dZ).Node.toNat:aM).gD,(gt 31 M k:dZ).From,(gt 31 M k:dZ).kS,Ji lN (gt 31 M k:dZ).Code (-1)⟩:rZ)])
def Kv (M:Li 31) (N:Li 19) (lN:Li 0) (s:Li 49):Li 49:=lp (O4 M N lN) rC (@ln (ah 31) M) 0 s
def O3 (M:Li 0)  (k:Nat) (s:Li 42) (next:Li 42->Li 42):Li 42:=bif decide (0<=nJ M k)then next (@HAppend.hAppend (List lM) (List lM) (List lM) _ s [(⟨nJ M k,3,(k:Int),0⟩:lM)])else next s
def D6 (M:Li 0)  (s:Li 42):Li 42:=lp (O3 M ) rC (@ln (ah 0) M) 0 s
theorem VU {uName:ByteArray} {eO:Bool} {aj:Li 19} {ak:Li 21} {aJ:Li 23} {aT:Li 6} {aS:Li 6} {aY:Li 1} {aG:Int} {aU:Int} {aL:Int} {aF:Int} {aH:Li 27} {aD:Li 31} {ay:Li 0} {aB:Li 0} {aI:Li 35} {bJ:Int} {bD:Int} {aX:Int} {dX:Int} {mA:ByteArray} {mB:Bool} {mC:Int} {mD:Int} {mE:Int} {mF:ByteArray} {mG:ByteArray} {mH:Int} {mK:Li 21} {mL:Li 0} {mQ:Int} {mR:Li 1} {mS:Li 27} {mI:Li 38} {mJ:Li 40} {mM:Li 0} {mN:Li 42} {mO:Li 0} {mP:Li 0} {mT:Li 9} {mU:Li 11} {mV:Li 44} {mW:Li 13} {mX:Li 46} {mY:Li 17} {mZ:Li 49} {bs:Li 3} {tl:Li 3} {ok:Bool} (h1:@ln (ah 40) mJ<=1099510579200) (h2:@ln (ah 0) mO<=1099510579200) (h3:@ln (ah 0) mP<=1099510579200) (h4:@ln (ah 49) mZ<=1099510579200) (h5:@ln (ah 42) mN<=1099510579200) (g1:@ln (ah 23) aJ<=1048576) (g2:@ln (ah 6) aT<=1048576) (g3:@ln (ah 6) aS<=1048576) (g4:@ln (ah 31) aD<=1048576) (g5:@ln (ah 0) aB<=1048576) (k1:∀ k,k<@ln (ah 23) aJ->0<=(gt 23 aJ k:jd).Node/\(gt 23 aJ k:jd).Node<(@ln (ah 0) ay:Nat)) (k2:(∀ k,k<@ln (ah 6) aT->BR ay (gt 6 aT k:bE))) (k3:(∀ k,k<@ln (ah 6) aS->BR ay (gt 6 aS k:bE))) (k4:∀ k,k<@ln (ah 31) aD->0<=(gt 31 aD k:dZ).Node/\(gt 31 aD k:dZ).Node<(@ln (ah 19) aj:Nat)) (k5:∀ k,k<@ln (ah 31) aD->BR ay (gt 31 aD k:dZ).Code):HC E0 19 16 [.loc 0 0] [(0,Ee uName eO aj ak aJ aT aS aY aG aU aL aF aH aD ay aB aI bJ bD aX dX mA mB mC mD mE mF mG mH 1 2 mK mL 3 4 5 6 mQ mR mS 7 8 9 10 11 12 13 14 15 ok),(1,.arr 75 none 38 mI),(2,.arr 137 none 40 mJ),(3,.arr 3 none 0 mM),(4,.arr 73 none 42 mN),(5,.arr 3 none 0 mO),(6,.arr 3 none 0 mP),(7,.arr 61 none 9 mT),(8,.arr 63 none 11 mU),(9,.arr 133 none 44 mV),(10,.arr 129 none 13 mW),(11,.arr 88 none 46 mX),(12,.arr 131 none 17 mY),(13,.arr 142 none 49 mZ),(14,.arr 5 none 3 bs),(15,.arr 5 none 3 tl)] (fun s H n=>s=.jm []/\H=[(0,Ee uName eO aj ak aJ aT aS aY aG aU aL aF aH aD ay aB aI bJ bD aX dX mA mB mC mD mE mF mG mH 1 16 mK mL 3 20 17 18 mQ mR mS 7 8 9 10 11 12 19 14 15 ok),(1,.arr 75 none 38 mI),(16,.arr 137 none 40 (Dn aJ ay mJ)),(3,.arr 3 none 0 mM),(20,.arr 73 none 42 (D6 aB  mN)),(17,.arr 3 none 0 (vI aT ay mO)),(18,.arr 3 none 0 (vI aS ay mP)),(7,.arr 61 none 9 mT),(8,.arr 63 none 11 mU),(9,.arr 133 none 44 mV),(10,.arr 129 none 13 mW),(11,.arr 88 none 46 mX),(12,.arr 131 none 17 mY),(19,.arr 142 none 49 (Kv aD aj ay mZ)),(14,.arr 5 none 3 bs),(15,.arr 5 none 3 tl)]/\n=21):=by
 refine dG (DB:=[F_AA]) (IL:=[I_Es]) (WL:=[]) (fn:=Proofs.Tryz.f19) rfl rfl rfl rfl (by unfold dA;kernel_rfl) (fun hk=>?_)
 simp only [know]at hk
 repeat' first|refine dM ?_|apply B_<;>intro h hc|apply I_;intro h
 all_goals conv=>whnf
 refine Or.inl ⟨Int×Li 40,1,[],[0,17,18],fun s=>[(19,.i s.1)],fun s=>[(0,Ee uName eO aj ak aJ aT aS aY aG aU aL aF aH aD ay aB aI bJ bD aX dX mA mB mC mD mE mF mG mH 1 16 mK mL 3 4 5 6 mQ mR mS 7 8 9 10 11 12 13 14 15 ok),(16,.arr 137 none 40 s.2)],[2],fun s=>∃ k:Nat,s.1=k/\k<=@ln (ah 23) aJ/\@ln (ah 40) s.2<=1099510579200+k/\Dn aJ ay mJ=lp (Im aJ ay) rC (@ln (ah 23) aJ-k) k s.2,fun s=>((@ln (ah 23) aJ:Nat)-s.1).toNat,(0,mJ),⟨0,rfl,Nat.zero_le _,bg,rfl⟩,?_,?_⟩
 ·exact bA
 rintro⟨(k:Int),(acc:Li 40)⟩ ⟨k,hk1,hk2,hk3,hS⟩;replace hk1:_=(k:Int):=hk1;subst hk1;replace hk2:k<=@ln (ah 23) aJ:=hk2;replace hk3:@ln (ah 40) acc<=1099510579200+k:=hk3;replace hS:Dn aJ ay mJ=lp (Im aJ ay) rC (@ln (ah 23) aJ-k) k acc:=hS;refine gK fun K0 hK0=>?_
 by_cases hkl:k<@ln (ah 23) aJ
 ·have hd:decide ((k:Int)<(@ln (ah 23) aJ:Nat))=true:=decide_eq_true au
  have hS2:=hS.trans (cK hkl);have hap:∀ x:ah 40,(@ln (ah 40) acc+@ln (ah 40) [x])*BT 40<=140737488355328:=fun x=>by show(_+1)*64<=_;omega
  have kk:=k1 k hkl;clear hS
  repeat' first|(refine jU ?_;first|(apply aP;focus (first|exact hap _|exact kk))|refine bO bK trivial ?_)|apply B_<;>intro h hc|apply I_;intro h
  all_goals refine iw ?_
  all_goals (refine ex3 ((k:Int)+1) bA (by(try dsimp only);first|omega) ?_;(try dsimp only);refine⟨k+1,rfl,hkl,?_,?_⟩;(focus first|(show @ln (ah 40) acc<=_;omega)|(show @ln (ah 40) (@HAppend.hAppend (Li 40) (Li 40) (Li 40) _ acc [_])<=_;rw [@dL (ah 40)];show @ln (ah 40) acc+1<=_;omega));refine hS2.trans ?_;symm;unfold Im;exact rfl)
 have hd:decide ((k:Int)<(@ln (ah 23) aJ:Nat))=false:=decide_eq_false au
 have hE0:Dn aJ ay mJ=acc:=hS.trans (iZ au)
 clear hS;subst hE0;have hL0:@ln (ah 40) (Dn aJ ay mJ)<=1099510579200+k:=hk3;clear hk3
 repeat' first|refine iF ?_|apply B_<;>intro h hc|apply I_;intro h
 all_goals refine iw ?_
 refine Or.inl ⟨Int×Li 0,1,[],[0,62,63],fun s=>[(64,.i s.1)],fun s=>[(0,Ee uName eO aj ak aJ aT aS aY aG aU aL aF aH aD ay aB aI bJ bD aX dX mA mB mC mD mE mF mG mH 1 16 mK mL 3 4 17 6 mQ mR mS 7 8 9 10 11 12 13 14 15 ok),(17,.arr 3 none 0 s.2)],[5],fun s=>∃ k:Nat,s.1=k/\k<=@ln (ah 6) aT/\@ln (ah 0) s.2<=1099510579200+k/\vI aT ay mO=lp (Il aT ay) rC (@ln (ah 6) aT-k) k s.2,fun s=>((@ln (ah 6) aT:Nat)-s.1).toNat,(0,mO),⟨0,rfl,Nat.zero_le _,bg,rfl⟩,?_,?_⟩
 ·exact bA
 rintro⟨(k:Int),(acc:Li 0)⟩ ⟨k,hk1,hk2,hk3,hS⟩;replace hk1:_=(k:Int):=hk1;subst hk1;replace hk2:k<=@ln (ah 6) aT:=hk2;replace hk3:@ln (ah 0) acc<=1099510579200+k:=hk3;replace hS:vI aT ay mO=lp (Il aT ay) rC (@ln (ah 6) aT-k) k acc:=hS;refine gK fun K1 hK1=>?_
 by_cases hkl:k<@ln (ah 6) aT
 ·have hd:decide ((k:Int)<(@ln (ah 6) aT:Nat))=true:=decide_eq_true au
  have hS2:=hS.trans (cK hkl);have hap:∀ x:ah 0,(@ln (ah 0) acc+@ln (ah 0) [x])*BT 0<=140737488355328:=fun x=>by show(_+1)*8<=_;omega
  have kk:=k2 k hkl;clear hS
  repeat' first|(refine jU ?_;first|(apply aP;focus (first|exact hap _|exact kk))|refine bO bK trivial ?_)|apply B_<;>intro h hc|apply I_;intro h
  all_goals refine iw ?_
  all_goals (refine ex3 ((k:Int)+1) bA (by(try dsimp only);first|omega) ?_;(try dsimp only);refine⟨k+1,rfl,hkl,?_,?_⟩;(focus first|(show @ln (ah 0) acc<=_;omega)|(show @ln (ah 0) (@HAppend.hAppend (Li 0) (Li 0) (Li 0) _ acc [_])<=_;rw [@dL (ah 0)];show @ln (ah 0) acc+1<=_;omega));refine hS2.trans ?_;symm;unfold Il;exact rfl)
 have hd:decide ((k:Int)<(@ln (ah 6) aT:Nat))=false:=decide_eq_false au
 have hE1:vI aT ay mO=acc:=hS.trans (iZ au)
 clear hS;subst hE1;have hL1:@ln (ah 0) (vI aT ay mO)<=1099510579200+k:=hk3;clear hk3
 repeat' first|refine iF ?_|apply B_<;>intro h hc|apply I_;intro h
 all_goals refine iw ?_
 refine Or.inl ⟨Int×Li 0,1,[],[0,87,88],fun s=>[(89,.i s.1)],fun s=>[(0,Ee uName eO aj ak aJ aT aS aY aG aU aL aF aH aD ay aB aI bJ bD aX dX mA mB mC mD mE mF mG mH 1 16 mK mL 3 4 17 18 mQ mR mS 7 8 9 10 11 12 13 14 15 ok),(18,.arr 3 none 0 s.2)],[6],fun s=>∃ k:Nat,s.1=k/\k<=@ln (ah 6) aS/\@ln (ah 0) s.2<=1099510579200+k/\vI aS ay mP=lp (Il aS ay) rC (@ln (ah 6) aS-k) k s.2,fun s=>((@ln (ah 6) aS:Nat)-s.1).toNat,(0,mP),⟨0,rfl,Nat.zero_le _,bg,rfl⟩,?_,?_⟩
 ·exact bA
 rintro⟨(k:Int),(acc:Li 0)⟩ ⟨k,hk1,hk2,hk3,hS⟩;replace hk1:_=(k:Int):=hk1;subst hk1;replace hk2:k<=@ln (ah 6) aS:=hk2;replace hk3:@ln (ah 0) acc<=1099510579200+k:=hk3;replace hS:vI aS ay mP=lp (Il aS ay) rC (@ln (ah 6) aS-k) k acc:=hS;refine gK fun K2 hK2=>?_
 by_cases hkl:k<@ln (ah 6) aS
 ·have hd:decide ((k:Int)<(@ln (ah 6) aS:Nat))=true:=decide_eq_true au
  have hS2:=hS.trans (cK hkl);have hap:∀ x:ah 0,(@ln (ah 0) acc+@ln (ah 0) [x])*BT 0<=140737488355328:=fun x=>by show(_+1)*8<=_;omega
  have kk:=k3 k hkl;clear hS
  repeat' first|(refine jU ?_;first|(apply aP;focus (first|exact hap _|exact kk))|refine bO bK trivial ?_)|apply B_<;>intro h hc|apply I_;intro h
  all_goals refine iw ?_
  all_goals (refine ex3 ((k:Int)+1) bA (by(try dsimp only);first|omega) ?_;(try dsimp only);refine⟨k+1,rfl,hkl,?_,?_⟩;(focus first|(show @ln (ah 0) acc<=_;omega)|(show @ln (ah 0) (@HAppend.hAppend (Li 0) (Li 0) (Li 0) _ acc [_])<=_;rw [@dL (ah 0)];show @ln (ah 0) acc+1<=_;omega));refine hS2.trans ?_;symm;unfold Il;exact rfl)
 have hd:decide ((k:Int)<(@ln (ah 6) aS:Nat))=false:=decide_eq_false au
 have hE2:vI aS ay mP=acc:=hS.trans (iZ au)
 clear hS;subst hE2;have hL2:@ln (ah 0) (vI aS ay mP)<=1099510579200+k:=hk3;clear hk3
 repeat' first|refine iF ?_|apply B_<;>intro h hc|apply I_;intro h
 all_goals refine iw ?_
 refine Or.inl ⟨Int×Li 49,1,[],[0,112,113],fun s=>[(114,.i s.1)],fun s=>[(0,Ee uName eO aj ak aJ aT aS aY aG aU aL aF aH aD ay aB aI bJ bD aX dX mA mB mC mD mE mF mG mH 1 16 mK mL 3 4 17 18 mQ mR mS 7 8 9 10 11 12 19 14 15 ok),(19,.arr 142 none 49 s.2)],[13],fun s=>∃ k:Nat,s.1=k/\k<=@ln (ah 31) aD/\@ln (ah 49) s.2<=1099510579200+k/\Kv aD aj ay mZ=lp (O4 aD aj ay) rC (@ln (ah 31) aD-k) k s.2,fun s=>((@ln (ah 31) aD:Nat)-s.1).toNat,(0,mZ),⟨0,rfl,Nat.zero_le _,bg,rfl⟩,?_,?_⟩
 ·exact bA
 rintro⟨(k:Int),(acc:Li 49)⟩ ⟨k,hk1,hk2,hk3,hS⟩;replace hk1:_=(k:Int):=hk1;subst hk1;replace hk2:k<=@ln (ah 31) aD:=hk2;replace hk3:@ln (ah 49) acc<=1099510579200+k:=hk3;replace hS:Kv aD aj ay mZ=lp (O4 aD aj ay) rC (@ln (ah 31) aD-k) k acc:=hS;refine gK fun K3 hK3=>?_
 by_cases hkl:k<@ln (ah 31) aD
 ·have hd:decide ((k:Int)<(@ln (ah 31) aD:Nat))=true:=decide_eq_true au
  have hS2:=hS.trans (cK hkl);have hap:∀ x:ah 49,(@ln (ah 49) acc+@ln (ah 49) [x])*BT 49<=140737488355328:=fun x=>by show(_+1)*80<=_;omega
  have kk:=k4 k hkl;have kj:=k5 k hkl;clear hS
  repeat' first|(refine jU ?_;first|(apply aP;focus (first|exact hap _|exact kk|exact kj))|refine bO bK trivial ?_)|apply B_<;>intro h hc|apply I_;intro h
  all_goals refine iw ?_
  all_goals (refine ex3 ((k:Int)+1) bA (by(try dsimp only);first|omega) ?_;(try dsimp only);refine⟨k+1,rfl,hkl,?_,?_⟩;(focus first|(show @ln (ah 49) acc<=_;omega)|(show @ln (ah 49) (@HAppend.hAppend (Li 49) (Li 49) (Li 49) _ acc [_])<=_;rw [@dL (ah 49)];show @ln (ah 49) acc+1<=_;omega));refine hS2.trans ?_;symm;unfold O4;exact rfl)
 have hd:decide ((k:Int)<(@ln (ah 31) aD:Nat))=false:=decide_eq_false au
 have hE3:Kv aD aj ay mZ=acc:=hS.trans (iZ au)
 clear hS;subst hE3;have hL3:@ln (ah 49) (Kv aD aj ay mZ)<=1099510579200+k:=hk3;clear hk3
 repeat' first|refine iF ?_|apply B_<;>intro h hc|apply I_;intro h
 all_goals refine iw ?_
 refine Or.inl ⟨Int×Li 42,1,[],[0,156,157],fun s=>[(158,.i s.1)],fun s=>[(0,Ee uName eO aj ak aJ aT aS aY aG aU aL aF aH aD ay aB aI bJ bD aX dX mA mB mC mD mE mF mG mH 1 16 mK mL 3 20 17 18 mQ mR mS 7 8 9 10 11 12 19 14 15 ok),(20,.arr 73 none 42 s.2)],[4],fun s=>∃ k:Nat,s.1=k/\k<=@ln (ah 0) aB/\@ln (ah 42) s.2<=1099510579200+k/\D6 aB  mN=lp (O3 aB ) rC (@ln (ah 0) aB-k) k s.2,fun s=>((@ln (ah 0) aB:Nat)-s.1).toNat,(0,mN),⟨0,rfl,Nat.zero_le _,bg,rfl⟩,?_,?_⟩
 ·exact bA
 rintro⟨(k:Int),(acc:Li 42)⟩ ⟨k,hk1,hk2,hk3,hS⟩;replace hk1:_=(k:Int):=hk1;subst hk1;replace hk2:k<=@ln (ah 0) aB:=hk2;replace hk3:@ln (ah 42) acc<=1099510579200+k:=hk3;replace hS:D6 aB  mN=lp (O3 aB ) rC (@ln (ah 0) aB-k) k acc:=hS;refine gK fun K4 hK4=>?_
 by_cases hkl:k<@ln (ah 0) aB
 ·have hd:decide ((k:Int)<(@ln (ah 0) aB:Nat))=true:=decide_eq_true au
  have hS2:=hS.trans (cK hkl);have hap:∀ x:ah 42,(@ln (ah 42) acc+@ln (ah 42) [x])*BT 42<=140737488355328:=fun x=>by show(_+1)*32<=_;omega
  skip
  clear hS
  repeat' first|(refine jU ?_;first|(apply aP;focus (exact hap _))|refine bO bK trivial ?_)|apply B_<;>intro h hc|apply I_;intro h
  all_goals refine iw ?_
  all_goals (refine ex3 ((k:Int)+1) bA (by(try dsimp only);first|omega) ?_;(try dsimp only);refine⟨k+1,rfl,hkl,?_,?_⟩;(focus first|(show @ln (ah 42) acc<=_;omega)|(show @ln (ah 42) (@HAppend.hAppend (Li 42) (Li 42) (Li 42) _ acc [_])<=_;rw [@dL (ah 42)];show @ln (ah 42) acc+1<=_;omega));refine hS2.trans ?_;symm;unfold O3;(repeat (first|exact rfl|refine gW (by assumption) ?_|refine gB (by assumption) ?_|refine jY (by first|assumption|omega) ?_|refine jZ (by first|assumption|omega) ?_)))
 have hd:decide ((k:Int)<(@ln (ah 0) aB:Nat))=false:=decide_eq_false au
 have hE4:D6 aB  mN=acc:=hS.trans (iZ au)
 clear hS;subst hE4;have hL4:@ln (ah 42) (D6 aB  mN)<=1099510579200+k:=hk3;clear hk3
 repeat' first|refine iF ?_|apply B_<;>intro h hc|apply I_;intro h
 all_goals refine iw ?_
 refine⟨[],[],_,_,[16,17,18,19,20],⟨rfl,rfl,rfl⟩,?_⟩
 conv=>whnf
 refine w_ ?_;repeat' (first|((with_reducible apply And.intro)<;>(first|(with_reducible refine iK ?_;apply rfl)|(with_reducible refine eY ?_;apply rfl)|(refine w_ ?_)))|(with_reducible apply trivial)|apply rfl|apply(Or.inl rfl)|apply(Or.inr rfl)|apply(Or.inr (Or.inl rfl))|apply trivial|(apply And.intro<;>(refine w_ ?_)))
 all_goals first|exact rfl
end Go.SX
