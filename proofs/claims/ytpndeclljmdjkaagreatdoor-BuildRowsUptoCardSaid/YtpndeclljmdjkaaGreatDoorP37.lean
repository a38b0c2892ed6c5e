/- A part of the proof (texts B29, B31). -/
import Derived.Test.YtpndeclljmdjkaaGreatDoorP10
import Derived.Test.YtpndeclljmdjkaaGreatDoorP17
import Derived.Test.YtpndeclljmdjkaaGreatDoorP23
set_option linter.all false
set_option maxRecDepth 100000
namespace Go.SX
open Int renaming eq_ofNat_of_zero_le -> cO,toNat_natCast -> bP
open Go.XK Go.RowKit
set_option maxHeartbeats 40000000
noncomputable section
def jX (n lo hi:Int):Bool:=decide (lo<=n)&&decide (n<=hi)
def yD (s:ByteArray):Bool:=decide ((s.size:Int)<=64)
def tK (c n:Int):Bool:=jX n 0 (IntKind.i64.wrap (c-8))&&decide (n.tmod 8=0)
def WE:Fact E0:=bM 100 Proofs.Tryz.f100 rfl rfl rfl [.s] (fun s=>.ok (.b (yD s))) [] [] kI
def F_BG:Fact E0:=bM 84 Proofs.Tryz.f84 rfl rfl rfl [.g dD,.i] (fun _ _ mC _ _ _ _ _ _ _ _ _ _ _ _ _ _ _ _ _ _ _ _ _ _ _ n=>.ok (.b (tK mC n))) [Dw] [] kI
def F_BT:Fact E0:=bM 94 Proofs.Tryz.f94 rfl rfl rfl [.i,.i,.p dD] (fun _ n _ _ mC _ _ _ _ _ _ _ _ _ _ _ _ _ _ _ _ _ _ _ _ _ _ _=>.ok (.b (tK mC n))) [F_BG] [] kI
def zR (z:Int) (M:Li 9) (i:Int) (x:eU):Bool:=yD x.Name&&(decide (x.Kind=0)||decide (x.Kind=1))&&jX x.At 0 z&&decide (0<=x.Size)&&(decide (i=0)||decide ((gt 9 M (i-1).toNat).At<=x.At))
def zS (c:Int) (M:Li 11) (i:Int) (x:fQ):Bool:=decide (x.gD=0)&&yD x.File&&jX x.At 0 (IntKind.i64.wrap (c-1))&&decide (0<=x.Line)&&(decide (i=0)||decide ((gt 11 M (i-1).toNat).At<=x.At))
def J4 (x:dW):Bool:=yD x.Name&&yD x.File&&decide (0<=x.Line)
def Hf (z:Int) (x:kR):Bool:=yD x.Name&&(decide (x.Where=1)||(decide (x.Where=0)&&jX x.N 0 15)||(decide (x.Where=2)&&jX x.N (-1) (IntKind.i64.wrap (z-1))))
def J5 (x:iH):Bool:=decide (0<=x.Bytes)&&decide (x.Bytes.tmod 8=0)
def ZK (x:om):Bool:=jX x.From 0 1048576&&jX x.Size 0 1048576&&jX x.To 0 1048576
def F_Ax:Fact E0:=bM 99 Proofs.Tryz.f99 rfl rfl rfl [.i,.g uM,.p dD,.p Em] (fun i xName l6 yK rM _ _ _ _ mE _ _ _ _ _ _ _ _ _ _ _ _ _ _ _ _ _ _ _ _ _ xG _ _ _ _ _=>.ob (0<=i/\i<(xG.length:Int)) (.b (zR mE xG i (⟨xName,l6,yK,rM⟩:eU)))) [Dw,WE] [] (by
   repeat intro _
   refine fD rfl rfl fun hb hk=>?_
   repeat' first|refine dM ?_|apply B_<;>intro h hc|apply I_;intro h
   all_goals conv=>whnf
   all_goals rfl)
def F_Ay:Fact E0:=bM 102 Proofs.Tryz.f102 rfl rfl rfl [.i,.g pY,.p dD,.p Em] (fun i jQ yK vg u7 _ _ mC _ _ _ _ _ _ _ _ _ _ _ _ _ _ _ _ _ _ _ _ _ _ _ _ xH _ _ _ _=>.ob (0<=i/\i<(xH.length:Int)) (.b (zS mC xH i (⟨jQ,yK,vg,u7⟩:fQ)))) [Dw,WE] [] (by
   repeat intro _
   refine fD rfl rfl fun hb hk=>?_
   repeat' first|refine dM ?_|apply B_<;>intro h hc|apply I_;intro h
   all_goals conv=>whnf
   all_goals rfl)
def F_BA:Fact E0:=bM 108 Proofs.Tryz.f108 rfl rfl rfl [.i,.g nU] (fun _ jQ gV I5 xName vg u7=>.ok (.b (J4 (⟨jQ,gV,I5,xName,vg,u7⟩:dW)))) [Dw,WE] [] kI
def F_BC:Fact E0:=bM 112 Proofs.Tryz.f112 rfl rfl rfl [.i,.g wH,.p dD] (fun _ jQ gV I5 xName Px xN _ _ _ _ mE _ _ _ _ _ _ _ _ _ _ _ _ _ _ _ _ _ _ _ _ _=>.ok (.b (Hf mE (⟨jQ,gV,I5,xName,Px,xN⟩:kR)))) [Dw,WE] [] kI
def F_BE:Fact E0:=bM 116 Proofs.Tryz.f116 rfl rfl rfl [.i,.g fC] (fun _ jQ gV I5 Py=>.ok (.b (J5 (⟨jQ,gV,I5,Py⟩:iH)))) [Dw,WE] [] kI
def F_As:Fact E0:=bM 120 Proofs.Tryz.f120 rfl rfl rfl [.i,.g [.i,.i,.i]] (fun _ gV rM I5=>.ok (.b (ZK (⟨gV,rM,I5⟩:om)))) [Dw,WE] [] kI
def F_Ah:Fact E0:=bM 98 Proofs.Tryz.f98 rfl rfl rfl [.l 9,.k 99 [] [.p dD,.p Em]] (fun l _ _ _ _ mE _ _ _ _ _ _ _ _ _ _ _ _ _ _ _ _ _ _ _ _ _ xG _ _ _ _ _=>.ob (l.length<=xG.length) (.b (lp (oW (fun k=>zR mE xG k (gt 9 l k))) oV l.length 0 ()))) [F_Ax] [] (by
   intro l _ _ _ _ mE _ _ _ _ _ _ _ _ _ _ _ _ _ _ _ _ _ _ _ _ _ xG
   repeat intro _
   refine fD rfl rfl fun hb hk=>?_
   simp only [know]at hk
   repeat' first|(refine w_ ?_;first|(apply aP;focus (first|(omega)|exact⟨au,au⟩))|refine bO bK trivial ?_)|apply B_<;>intro h hc|apply I_;intro h
   all_goals conv=>whnf
   refine Or.inr (Or.inr ⟨[],[9],[],[],[1,7,8],[],?_⟩);conv=>whnf
   refine⟨fun(s:Int×Unit) (t:Unit)=>0<=s.1/\s.1<=l.length/\lp (oW (fun k=>zR mE xG k (gt 9 l k))) oV l.length 0 ()=lp (oW (fun k=>zR mE xG k (gt 9 l k))) oV (l.length-s.1.toNat) s.1.toNat (()),fun(s:Int×Unit) (_:Unit)=>(l.length-s.1).toNat,?_⟩
   conv=>whnf
   refine eZ.mk ⟨bg,bg,rfl⟩ bA ?_
   rintro⟨(k:Int),_⟩ _ ⟨h0,h1,hS⟩
   try dsimp only at h0 h1 hS
   obtain⟨k,rfl⟩:=cO (show(0:Int)<=k by omega)
   rw [bP]at hS
   repeat' first|(refine w_ ?_;first|(apply aP;focus (first|(omega)|exact⟨au,au⟩))|refine bO bK trivial ?_)|apply B_<;>intro h hc|apply I_;intro h
   all_goals conv=>whnf
   all_goals exact l5)
def F_Ag:Fact E0:=bM 101 Proofs.Tryz.f101 rfl rfl rfl [.l 11,.k 102 [] [.p dD,.p Em]] (fun l _ _ mC _ _ _ _ _ _ _ _ _ _ _ _ _ _ _ _ _ _ _ _ _ _ _ _ xH _ _ _ _=>.ob (l.length<=xH.length) (.b (lp (oW (fun k=>zS mC xH k (gt 11 l k))) oV l.length 0 ()))) [F_Ay] [] (by
   intro l _ _ mC _ _ _ _ _ _ _ _ _ _ _ _ _ _ _ _ _ _ _ _ _ _ _ _ xH
   repeat intro _
   refine fD rfl rfl fun hb hk=>?_
   simp only [know]at hk
   repeat' first|(refine w_ ?_;first|(apply aP;focus (first|(omega)|exact⟨au,au⟩))|refine bO bK trivial ?_)|apply B_<;>intro h hc|apply I_;intro h
   all_goals conv=>whnf
   refine Or.inr (Or.inr ⟨[],[9],[],[],[1,7,8],[],?_⟩);conv=>whnf
   refine⟨fun(s:Int×Unit) (t:Unit)=>0<=s.1/\s.1<=l.length/\lp (oW (fun k=>zS mC xH k (gt 11 l k))) oV l.length 0 ()=lp (oW (fun k=>zS mC xH k (gt 11 l k))) oV (l.length-s.1.toNat) s.1.toNat (()),fun(s:Int×Unit) (_:Unit)=>(l.length-s.1).toNat,?_⟩
   conv=>whnf
   refine eZ.mk ⟨bg,bg,rfl⟩ bA ?_
   rintro⟨(k:Int),_⟩ _ ⟨h0,h1,hS⟩
   try dsimp only at h0 h1 hS
   obtain⟨k,rfl⟩:=cO (show(0:Int)<=k by omega)
   rw [bP]at hS
   repeat' first|(refine w_ ?_;first|(apply aP;focus (first|(omega)|exact⟨au,au⟩))|refine bO bK trivial ?_)|apply B_<;>intro h hc|apply I_;intro h
   all_goals conv=>whnf
   all_goals exact l5)
def F_Af:Fact E0:=bM 107 Proofs.Tryz.f107 rfl rfl rfl [.l 13,.k 108 [] []] (fun l=>.ok (.b (lp (oW (fun k=>J4 (gt 13 l k))) oV l.length 0 ()))) [F_BA] [] (by
   intro l;refine dP rfl rfl fun hk=>?_
   simp only [know]at hk
   repeat' first|refine dM ?_|apply B_<;>intro h hc|apply I_;intro h
   all_goals conv=>whnf
   refine Or.inr (Or.inr ⟨[],[9],[],[],[1,7,8],[],?_⟩);conv=>whnf
   refine⟨fun(s:Int×Unit) (t:Unit)=>0<=s.1/\s.1<=l.length/\lp (oW (fun k=>J4 (gt 13 l k))) oV l.length 0 ()=lp (oW (fun k=>J4 (gt 13 l k))) oV (l.length-s.1.toNat) s.1.toNat (()),fun(s:Int×Unit) (_:Unit)=>(l.length-s.1).toNat,?_⟩
   conv=>whnf
   refine eZ.mk ⟨bg,bg,rfl⟩ bA ?_
   rintro⟨(k:Int),_⟩ _ ⟨h0,h1,hS⟩
   try dsimp only at h0 h1 hS
   obtain⟨k,rfl⟩:=cO (show(0:Int)<=k by omega)
   rw [bP]at hS
   repeat' first|refine dM ?_|apply B_<;>intro h hc|apply I_;intro h
   all_goals conv=>whnf
   all_goals exact l5)
def F_Ak:Fact E0:=bM 111 Proofs.Tryz.f111 rfl rfl rfl [.l 46,.k 112 [] [.p dD]] (fun l _ _ _ _ mE _ _ _ _ _ _ _ _ _ _ _ _ _ _ _ _ _ _ _ _ _=>.ok (.b (lp (oW (fun k=>Hf mE (gt 46 l k))) oV l.length 0 ()))) [F_BC] [] (by
   intro l _ _ _ _ mE
   repeat intro _
   refine dP rfl rfl fun hk=>?_
   simp only [know]at hk
   repeat' first|refine dM ?_|apply B_<;>intro h hc|apply I_;intro h
   all_goals conv=>whnf
   refine Or.inr (Or.inr ⟨[],[9],[],[],[1,7,8],[],?_⟩);conv=>whnf
   refine⟨fun(s:Int×Unit) (t:Unit)=>0<=s.1/\s.1<=l.length/\lp (oW (fun k=>Hf mE (gt 46 l k))) oV l.length 0 ()=lp (oW (fun k=>Hf mE (gt 46 l k))) oV (l.length-s.1.toNat) s.1.toNat (()),fun(s:Int×Unit) (_:Unit)=>(l.length-s.1).toNat,?_⟩
   conv=>whnf
   refine eZ.mk ⟨bg,bg,rfl⟩ bA ?_
   rintro⟨(k:Int),_⟩ _ ⟨h0,h1,hS⟩
   try dsimp only at h0 h1 hS
   obtain⟨k,rfl⟩:=cO (show(0:Int)<=k by omega)
   rw [bP]at hS
   repeat' first|refine dM ?_|apply B_<;>intro h hc|apply I_;intro h
   all_goals conv=>whnf
   all_goals exact l5)
def F_Ae:Fact E0:=bM 115 Proofs.Tryz.f115 rfl rfl rfl [.l 17,.k 116 [] []] (fun l=>.ok (.b (lp (oW (fun k=>J5 (gt 17 l k))) oV l.length 0 ()))) [F_BE] [] (by
   intro l;refine dP rfl rfl fun hk=>?_
   simp only [know]at hk
   repeat' first|refine dM ?_|apply B_<;>intro h hc|apply I_;intro h
   all_goals conv=>whnf
   refine Or.inr (Or.inr ⟨[],[9],[],[],[1,7,8],[],?_⟩);conv=>whnf
   refine⟨fun(s:Int×Unit) (t:Unit)=>0<=s.1/\s.1<=l.length/\lp (oW (fun k=>J5 (gt 17 l k))) oV l.length 0 ()=lp (oW (fun k=>J5 (gt 17 l k))) oV (l.length-s.1.toNat) s.1.toNat (()),fun(s:Int×Unit) (_:Unit)=>(l.length-s.1).toNat,?_⟩
   conv=>whnf
   refine eZ.mk ⟨bg,bg,rfl⟩ bA ?_
   rintro⟨(k:Int),_⟩ _ ⟨h0,h1,hS⟩
   try dsimp only at h0 h1 hS
   obtain⟨k,rfl⟩:=cO (show(0:Int)<=k by omega)
   rw [bP]at hS
   repeat' first|refine dM ?_|apply B_<;>intro h hc|apply I_;intro h
   all_goals conv=>whnf
   all_goals exact l5)
def F_Ai:Fact E0:=bM 119 Proofs.Tryz.f119 rfl rfl rfl [.l 29,.k 120 [] []] (fun l=>.ok (.b (lp (oW (fun k=>ZK (gt 29 l k))) oV l.length 0 ()))) [F_As] [] (by
   intro l;refine dP rfl rfl fun hk=>?_
   simp only [know]at hk
   repeat' first|refine dM ?_|apply B_<;>intro h hc|apply I_;intro h
   all_goals conv=>whnf
   refine Or.inr (Or.inr ⟨[],[9],[],[],[1,7,8],[],?_⟩);conv=>whnf
   refine⟨fun(s:Int×Unit) (t:Unit)=>0<=s.1/\s.1<=l.length/\lp (oW (fun k=>ZK (gt 29 l k))) oV l.length 0 ()=lp (oW (fun k=>ZK (gt 29 l k))) oV (l.length-s.1.toNat) s.1.toNat (()),fun(s:Int×Unit) (_:Unit)=>(l.length-s.1).toNat,?_⟩
   conv=>whnf
   refine eZ.mk ⟨bg,bg,rfl⟩ bA ?_
   rintro⟨(k:Int),_⟩ _ ⟨h0,h1,hS⟩
   try dsimp only at h0 h1 hS
   obtain⟨k,rfl⟩:=cO (show(0:Int)<=k by omega)
   rw [bP]at hS
   repeat' first|refine dM ?_|apply B_<;>intro h hc|apply I_;intro h
   all_goals conv=>whnf
   all_goals exact l5)
def TG (D:Li 42) (S:Li 0) (d n:Int) (k:Nat) (s:Int×Int) (next:Int×Int->Bool):Bool :=
 bif !jX (gt 42 D k).Kind 0 7 || !jX (gt 42 D k).At s.1 (IntKind.i64.wrap (d-rV (gt 42 D k).Kind)) || !jX (gt 42 D k).Import (-1) (n-1)then false
 else bif decide ((gt 42 D k).Kind=3)then(bif decide ((gt 42 D k).Import<0) || !decide (gI S (gt 42 D k).Import.toNat=(gt 42 D k).At)then false else next (IntKind.i64.wrap ((gt 42 D k).At+rV (gt 42 D k).Kind),IntKind.i64.wrap (s.2+1)))
 else bif decide ((gt 42 D k).Kind=5)then(bif decide ((gt 42 D k).Import<0)then false else next (IntKind.i64.wrap ((gt 42 D k).At+rV (gt 42 D k).Kind),s.2))
 else bif decide ((gt 42 D k).Kind=6)then(bif decide ((gt 42 D k).Import<0)then false else next (IntKind.i64.wrap ((gt 42 D k).At+rV (gt 42 D k).Kind),s.2))
 else bif decide ((gt 42 D k).Kind=7)then(bif decide ((gt 42 D k).Import<0)then false else next (IntKind.i64.wrap ((gt 42 D k).At+rV (gt 42 D k).Kind),s.2))
 else next (IntKind.i64.wrap ((gt 42 D k).At+rV (gt 42 D k).Kind),s.2)
def ZJ (S:Li 0) (k:Nat) (n:Int) (next:Int->Bool):Bool:=bif !decide (gI S k = -1)then next (IntKind.i64.wrap (n-1))else next n
def imSlF (n:Int):Bool:=decide (n=0)
def ZP (S:Li 0) (s:Int×Int):Bool:=lp (ZJ S) imSlF S.length 0 s.2
def QX (D:Li 42) (S:Li 0) (d n:Int):Bool:=lp (TG D S d n) (ZP S) D.length 0 (0,0)
def F_At:Fact E0:=bM 29 Proofs.Tryz.f29 rfl rfl rfl [.g dD] (fun _ _ _ mD _ _ _ _ _ _ mK mL _ mN _ _ _ _ _ _ _ _ _ _ _ _=>.ob (mL.length=mK.length) (.b (QX mN mL mD mK.length))) [Dw,F_BU] [] (by
   intro _ _ _ mD _ _ _ _ _ _ mK mL _ mN
   repeat intro _
   refine fD rfl rfl fun hb hk=>?_
   generalize hz:QX mN mL mD mK.length=rr
   repeat' first|(refine w_ ?_;first|(apply aP;focus (intro hq<;>(try (conv at hq=>whnf))<;>simp only [bs]at hq<;>(try simp only [bP])<;>omega))|refine bO bK trivial ?_)|apply B_<;>intro h hc|apply I_;intro h
   all_goals conv=>whnf
   refine Or.inr (Or.inr ⟨[],[3,4,12],[],[],[1,10,11],[],?_⟩);conv=>whnf
   refine⟨fun(s:Int×Int×Int×Unit) (_:Unit)=>0<=s.2.2.1/\s.2.2.1<=mN.length/\rr=lp (TG mN mL mD mK.length) (ZP mL) (mN.length-s.2.2.1.toNat) s.2.2.1.toNat (s.1,s.2.1),fun(s:Int×Int×Int×Unit) _=>(mN.length-s.2.2.1).toNat,?_⟩
   conv=>whnf
   refine eZ.mk ⟨bg,bg,hz.symm⟩ bA ?_
   rintro⟨(e1:Int),(n1:Int),(k:Int),_⟩ _ ⟨h0,h1,hS⟩
   try dsimp only at h0 h1 hS
   obtain⟨k,rfl⟩:=cO h0;rw [bP]at hS
   repeat' first|(refine w_ ?_;first|(apply aP;focus (intro hq<;>(try (conv at hq=>whnf))<;>simp only [bs]at hq<;>(try simp only [bP])<;>omega))|refine bO bK trivial ?_)|apply B_<;>intro h hc|apply I_;intro h
   all_goals conv=>whnf
   all_goals first
    |((try dsimp only);refine⟨au,au,hS.trans ((cK au).trans ?_)⟩;rw [show((k:Int)+1).toNat=k+1 by omega];symm;unfold TG;(try dsimp only);all_goals exact lI)
    |((try dsimp only);refine Eq.trans ?_ (hS.trans (cK au)).symm;unfold TG;(try dsimp only);all_goals exact lI)
    |skip
   replace hS:=hS.trans (iZ au)
   unfold ZP at hS;refine Or.inr (Or.inr ⟨[],[4,80],[],[],[78,79],[],?_⟩);conv=>whnf
   refine⟨fun(s:Int×Int×Unit) (_:Unit)=>0<=s.2.1/\s.2.1<=mL.length/\rr=lp (ZJ mL) imSlF (mL.length-s.2.1.toNat) s.2.1.toNat s.1,fun(s:Int×Int×Unit) _=>(mL.length-s.2.1).toNat,?_⟩
   conv=>whnf
   refine eZ.mk ⟨bg,bg,hS⟩ bA ?_
   rintro⟨(n2:Int),(j:Int),_⟩ _ ⟨g0,g1,gS⟩
   try dsimp only at g0 g1 gS
   obtain⟨j,rfl⟩:=cO g0;rw [bP]at gS
   repeat' first|(refine w_ ?_;first|(apply aP;focus (intro hq<;>(try (conv at hq=>whnf))<;>simp only [bs]at hq<;>(try simp only [bP])<;>omega))|refine bO bK trivial ?_)|apply B_<;>intro h hc|apply I_;intro h
   all_goals conv=>whnf
   all_goals first
    |((try dsimp only);refine⟨au,au,gS.trans ((cK au).trans ?_)⟩;rw [show((j:Int)+1).toNat=j+1 by omega];symm;unfold ZJ;(try dsimp only);all_goals exact lI)
    |((try dsimp only);exact(gS.trans (iZ au)).symm))
end
end Go.SX
