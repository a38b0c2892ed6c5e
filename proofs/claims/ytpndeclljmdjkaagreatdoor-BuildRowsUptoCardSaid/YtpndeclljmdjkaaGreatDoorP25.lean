/- A part of the proof (texts B26, B27). -/
import Derived.Test.YtpndeclljmdjkaaGreatDoorP10
import Derived.Test.YtpndeclljmdjkaaGreatDoorP23
set_option linter.all false
set_option maxRecDepth 100000
namespace Go.SX
open Int renaming eq_ofNat_of_zero_le -> cO,toNat_natCast -> bP
open List renaming length -> ln
open Go.XK Go.RowKit
set_option maxHeartbeats 40000000
def Mk (N:Li 19) (k:Nat) (_:Unit) (next:Unit->Bool):Bool :=
 bif decide (600<(gt 19 N k).Size)||decide (600<((gt 19 N k).Bytes.size:Int))||decide (30<((gt 19 N k).Refs.length:Int))||decide (30<((gt 19 N k).Marks.length:Int))||decide (30<((gt 19 N k).Lines.length:Int))||decide (30<((gt 19 N k).dK.length:Int))||decide (30<((gt 19 N k).Vars.length:Int))||decide (30<((gt 19 N k).gy.length:Int))then false else next ()
def Zg (_:Unit):Bool:=true
def Ti (N:Li 19) (i o a b c t z ln ls:Int):Bool :=
 bif decide (24<(N.length:Int))||decide (20<i)||decide (30<o)||decide (10<a)||decide (10<b)||decide (10<c)||decide (40<t)||decide (8192<z)||decide (30<ln)||decide (30<ls)then false
 else lp (Mk N) Zg N.length 0 ()
noncomputable def F_Bb:Fact E0:=bM 6 Proofs.Tryz.f6 rfl rfl rfl [.g dH,.g jP] (fun _ _ aj ak aJ aT aS _ _ _ _ _ _ aD ay aB aI _ _ aX _=>.ok (.b (Ti aj ak.length aJ.length aT.length aS.length aD.length aI.length aX ay.length aB.length))) [] [] (by
   intro _ _ aj ak aJ aT aS _ _ _ _ _ _ aD ay aB aI _ _ aX
   repeat intro _
   refine dP rfl rfl fun hk=>?_
   generalize hz:Ti aj ak.length aJ.length aT.length aS.length aD.length aI.length aX ay.length aB.length=rr
   repeat' first|refine dM ?_|apply B_<;>intro h hc|apply I_;intro h
   all_goals conv=>whnf
   ·unfold Ti at hz;(repeat (first|replace hz:=qV (by assumption) hz|replace hz:=nE (by assumption) hz|replace hz:=wT (by first|assumption|omega) hz|replace hz:=wX (by first|assumption|omega) hz));subst hz;exact bA
   unfold Ti at hz;replace hz:=nE (by assumption) hz
   refine Or.inr (Or.inr ⟨[],[5,80,81,82,83,86,87,88,89,92,93,94,95,98,99,100,101,104,105,106,107,110,111,112,113,116,117,118,119],[],[],[2],[],?_⟩);conv=>whnf
   refine⟨fun(s:Int×Unit) (_:Unit)=>0<=s.1/\s.1<=aj.length/\rr=lp (Mk aj) Zg (aj.length-s.1.toNat) s.1.toNat (),fun(s:Int×Unit) _=>(aj.length-s.1).toNat,?_⟩
   conv=>whnf
   refine eZ.mk ⟨bg,bg,hz.symm⟩ bA ?_
   rintro⟨(k:Int),_⟩ _ ⟨h0,h1,hS⟩
   try dsimp only at h0 h1 hS
   obtain⟨k,rfl⟩:=cO h0;rw [bP]at hS
   repeat' first|refine dM ?_|apply B_<;>intro h hc|apply I_;intro h
   all_goals conv=>whnf
   all_goals first
    |((try dsimp only);refine⟨au,au,hS.trans ((cK au).trans ?_)⟩;rw [show((k:Int)+1).toNat=k+1 by omega];symm;unfold Mk;(try dsimp only);all_goals exact lI)
    |((try dsimp only);refine Eq.trans ?_ (hS.trans (cK au)).symm;unfold Mk;(try dsimp only);all_goals exact lI)
    |((try dsimp only);exact(hS.trans (iZ au)).symm))
def Jd (a b:fQ):Bool:=decide (a.gD=b.gD)&&(decide (a.At=b.At)&&(decide (a.File=b.File)&&(decide (a.Line=b.Line)&&true)))
def vE (l:Li 11) (x:fQ) (k:Nat) (n:Int) (next:Int->Int):Int:=bif Jd (gt 11 l k) x then next (n+1)else next n
def wR (n:Int):Int:=n
def AV (l:Li 11) (x:fQ):Int:=lp (vE l x) wR (@ln (ah 11) l) 0 0
noncomputable def F_Bc:Fact E0:=bM 7 Proofs.Tryz.f7 rfl rfl rfl [.g dD,.g pY] (fun _ _ _ _ _ _ _ _ _ _ _ _ _ _ _ _ _ _ _ _ mU _ _ _ _ _ jQ yK vg u7=>.ok (.i (AV mU (⟨jQ,yK,vg,u7⟩:fQ)))) [] [] (by
   intro _ _ _ _ _ _ _ _ _ _ _ _ _ _ _ _ _ _ _ _ mU _ _ _ _ _ jQ yK vg u7;refine dP rfl rfl fun hk=>?_
   repeat' first|refine dM ?_|apply B_<;>intro h hc|apply I_;intro h
   all_goals conv=>whnf
   refine Or.inr (Or.inr ⟨[],[5,6],[],[],[2,3],[],?_⟩);conv=>whnf
   refine⟨fun(s:Int×Int×Unit) (t:Unit)=>0<=s.2.1/\s.2.1<=mU.length/\(0<=s.1/\s.1<=s.2.1)/\AV mU (⟨jQ,yK,vg,u7⟩:fQ)=lp (vE mU (⟨jQ,yK,vg,u7⟩:fQ)) wR (mU.length-s.2.1.toNat) s.2.1.toNat (s.1),fun(s:Int×Int×Unit) (_:Unit)=>(mU.length-s.2.1).toNat,?_⟩
   conv=>whnf
   refine eZ.mk ⟨bg,bg,⟨bg,bg⟩,rfl⟩ bA ?_
   rintro⟨(x0:Int),(k:Int),_⟩ _ ⟨h0,h1,hF,hS⟩
   try dsimp only at h0 h1 hF hS
   obtain⟨k,rfl⟩:=cO (show(0:Int)<=k by omega)
   rw [bP]at hS
   try simp only [bP]at hF
   repeat' first|refine dM ?_|apply B_<;>intro h hc|apply I_;intro h
   all_goals conv=>whnf
   all_goals first
    |((try dsimp only);refine⟨au,au,⟨au,au⟩,hS.trans ((cK au).trans ?_)⟩;rw [show((k:Int)+1).toNat=k+1 by omega];symm;unfold vE Jd;(try dsimp only);all_goals exact lI)
    |((try dsimp only);refine Eq.trans ?_ (hS.trans (cK au)).symm;unfold vE Jd;(try dsimp only);all_goals exact lI)
    |((try dsimp only);refine Eq.trans ?_ (hS.trans (iZ au)).symm;unfold wR;(try dsimp only);all_goals exact lI))
def qQ (P:Li 38) (t:bE):Int:=bif decide (t.Kind=0)&&decide (t.N<(P.length:Int))then IntKind.i64.wrap ((gt 38 P t.N.toNat).At+t.Off)else 0
noncomputable def F_Be:Fact E0:=bM 21 Proofs.Tryz.f21 rfl rfl rfl [.g dD,.g fC] (fun _ _ _ _ _ _ _ _ mI _ _ _ _ _ _ _ _ _ _ _ _ _ _ _ _ _ nM tN zu qI=>.ob (nM=0->0<=tN) (.i (qQ mI (⟨nM,tN,zu,qI⟩:bE)))) [] [] (by
   repeat intro _
   refine fD rfl rfl fun hb hk=>?_
   repeat' first|(refine w_ ?_;first|(apply aP;focus (have:=hb h.1<;>omega))|refine bO bK trivial ?_)|apply B_<;>intro h hc|apply I_;intro h
   all_goals conv=>whnf
   all_goals (unfold qQ;(repeat (first|exact rfl|refine gW (by assumption) ?_|refine gB (by assumption) ?_|refine jY (by first|assumption|omega) ?_|refine jZ (by first|assumption|omega) ?_))))
def D8 (a b:kR):Bool:=decide (a.gD=b.gD)&&(decide (a.From=b.From)&&(decide (a.To=b.To)&&(decide (a.Name=b.Name)&&(decide (a.Where=b.Where)&&(decide (a.N=b.N)&&true)))))
def tH (V:Li 46) (w:kR) (k:Nat) (_:Unit) (next:Unit->Bool):Bool:=bif D8 (gt 46 V k) w then true else next ()
def G5 (_:Unit):Bool:=false
def Tg (V:Li 46) (w:kR):Bool:=lp (tH V w) G5 (@ln (ah 46) V) 0 ()
def DT (V:Li 46) (P:Li 38) (L:Li 0) (z node:Int) (v:bQ):Bool :=
 bif decide (v.Where=2)then(bif decide (v.Target.Kind=0)&&decide (qQ P v.Target<z)then Tg V ⟨0,IntKind.i64.wrap (v.From+gI L node.toNat),IntKind.i64.wrap (v.To+gI L node.toNat),v.Name,v.Where,qQ P v.Target⟩
   else Tg V ⟨0,IntKind.i64.wrap (v.From+gI L node.toNat),IntKind.i64.wrap (v.To+gI L node.toNat),v.Name,v.Where,-1⟩)
 else Tg V ⟨0,IntKind.i64.wrap (v.From+gI L node.toNat),IntKind.i64.wrap (v.To+gI L node.toNat),v.Name,v.Where,v.N⟩
noncomputable def F_Bf:Fact E0:=bM 8 Proofs.Tryz.f8 rfl rfl rfl [.g dH,.g jP,.g dD,.i,.g uK] (fun _ _ _ _ _ _ _ _ _ _ _ _ _ _ ay _ _ _ _ aX _ _ _ _ _ _ _ _ _ mI _ _ _ _ _ _ _ _ _ _ _ _ _ _ mX _ _ node qE PU lW lF vN eD iT gH fq=>.ob ((0<=node/\node<(ay.length:Int))/\(eD=0->0<=iT)) (.b (DT mX mI ay aX node (⟨qE,PU,lW,lF,vN,⟨eD,iT,gH,fq⟩⟩:bQ)))) [F_Be] [] (by
   intro _ _ _ _ _ _ _ _ _ _ _ _ _ _ ay _ _ _ _ aX _ _ _ _ _ _ _ _ _ mI _ _ _ _ _ _ _ _ _ _ _ _ _ _ mX _ _ node qE PU lW lF vN eD iT gH fq;refine fD rfl rfl fun hb hk=>?_
   generalize hz:DT mX mI ay aX node (⟨qE,PU,lW,lF,vN,⟨eD,iT,gH,fq⟩⟩:bQ)=rr
   repeat' first|(refine w_ ?_;first|(apply aP;focus (intro _<;>exact hb.2))|refine bO bK (And.intro hb.1 hb.2) ?_)|apply B_<;>intro h hc|apply I_;intro h
   all_goals conv=>whnf
   ·unfold DT at hz
    (repeat (first|replace hz:=qV (by assumption) hz|replace hz:=nE (by assumption) hz))
    refine Or.inr (Or.inr ⟨[],[12],[],[],[7,11],[],?_⟩);conv=>whnf
    refine⟨fun(s:Int×Unit) (_:Unit)=>0<=s.1/\s.1<=@ln (ah 46) mX/\rr=lp (tH mX ⟨0,IntKind.i64.wrap (qE+gI ay node.toNat),IntKind.i64.wrap (PU+gI ay node.toNat),lW,lF,qQ mI ⟨eD,iT,gH,fq⟩⟩) G5 (@ln (ah 46) mX-s.1.toNat) s.1.toNat (),fun(s:Int×Unit) _=>(@ln (ah 46) mX-s.1).toNat,?_⟩
    conv=>whnf
    refine eZ.mk ⟨bg,bg,hz.symm⟩ bA ?_
    rintro⟨(k:Int),_⟩ _ ⟨h0,h1,hS⟩
    try dsimp only at h0 h1 hS
    obtain⟨k,rfl⟩:=cO h0;rw [bP]at hS
    repeat' first|refine dM ?_|apply B_<;>intro h hc|apply I_;intro h
    all_goals conv=>whnf
    all_goals first
     |((try dsimp only);refine⟨au,au,hS.trans ((cK au).trans ?_)⟩;rw [show((k:Int)+1).toNat=k+1 by omega];symm;unfold tH D8;(try dsimp only);all_goals exact lI)
     |((try dsimp only);refine Eq.trans ?_ (hS.trans (cK au)).symm;unfold tH D8;(try dsimp only);all_goals exact lI)
     |((try dsimp only);exact(hS.trans (iZ au)).symm)
   ·unfold DT at hz
    (repeat (first|replace hz:=qV (by assumption) hz|replace hz:=nE (by assumption) hz))
    refine Or.inr (Or.inr ⟨[],[12],[],[],[7,11],[],?_⟩);conv=>whnf
    refine⟨fun(s:Int×Unit) (_:Unit)=>0<=s.1/\s.1<=@ln (ah 46) mX/\rr=lp (tH mX ⟨0,IntKind.i64.wrap (qE+gI ay node.toNat),IntKind.i64.wrap (PU+gI ay node.toNat),lW,lF,-1⟩) G5 (@ln (ah 46) mX-s.1.toNat) s.1.toNat (),fun(s:Int×Unit) _=>(@ln (ah 46) mX-s.1).toNat,?_⟩
    conv=>whnf
    refine eZ.mk ⟨bg,bg,hz.symm⟩ bA ?_
    rintro⟨(k:Int),_⟩ _ ⟨h0,h1,hS⟩
    try dsimp only at h0 h1 hS
    obtain⟨k,rfl⟩:=cO h0;rw [bP]at hS
    repeat' first|refine dM ?_|apply B_<;>intro h hc|apply I_;intro h
    all_goals conv=>whnf
    all_goals first
     |((try dsimp only);refine⟨au,au,hS.trans ((cK au).trans ?_)⟩;rw [show((k:Int)+1).toNat=k+1 by omega];symm;unfold tH D8;(try dsimp only);all_goals exact lI)
     |((try dsimp only);refine Eq.trans ?_ (hS.trans (cK au)).symm;unfold tH D8;(try dsimp only);all_goals exact lI)
     |((try dsimp only);exact(hS.trans (iZ au)).symm)
   ·unfold DT at hz
    (repeat (first|replace hz:=qV (by assumption) hz|replace hz:=nE (by assumption) hz))
    refine Or.inr (Or.inr ⟨[],[12],[],[],[7,11],[],?_⟩);conv=>whnf
    refine⟨fun(s:Int×Unit) (_:Unit)=>0<=s.1/\s.1<=@ln (ah 46) mX/\rr=lp (tH mX ⟨0,IntKind.i64.wrap (qE+gI ay node.toNat),IntKind.i64.wrap (PU+gI ay node.toNat),lW,lF,vN⟩) G5 (@ln (ah 46) mX-s.1.toNat) s.1.toNat (),fun(s:Int×Unit) _=>(@ln (ah 46) mX-s.1).toNat,?_⟩
    conv=>whnf
    refine eZ.mk ⟨bg,bg,hz.symm⟩ bA ?_
    rintro⟨(k:Int),_⟩ _ ⟨h0,h1,hS⟩
    try dsimp only at h0 h1 hS
    obtain⟨k,rfl⟩:=cO h0;rw [bP]at hS
    repeat' first|refine dM ?_|apply B_<;>intro h hc|apply I_;intro h
    all_goals conv=>whnf
    all_goals first
     |((try dsimp only);refine⟨au,au,hS.trans ((cK au).trans ?_)⟩;rw [show((k:Int)+1).toNat=k+1 by omega];symm;unfold tH D8;(try dsimp only);all_goals exact lI)
     |((try dsimp only);refine Eq.trans ?_ (hS.trans (cK au)).symm;unfold tH D8;(try dsimp only);all_goals exact lI)
     |((try dsimp only);exact(hS.trans (iZ au)).symm))
end Go.SX
