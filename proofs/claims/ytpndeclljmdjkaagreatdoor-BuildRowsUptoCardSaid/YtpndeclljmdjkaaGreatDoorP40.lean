/- A part of the proof (texts B64, B65, B66, B67). -/
import Derived.Test.YtpndeclljmdjkaaGreatDoorP10
import Derived.Test.YtpndeclljmdjkaaGreatDoorP29
import Derived.Test.YtpndeclljmdjkaaGreatDoorP37
set_option linter.all false
set_option maxRecDepth 100000
namespace Go.SX
open List renaming length -> ln
open Go.XK Go.RowKit
set_option maxHeartbeats 40000000
noncomputable section
def Ey (c d z:Int) (b t:ByteArray) (k:Int) (nm:ByteArray):Bool :=
 ((List.range (@ln (ah 0) ([c,d,z]:List Int))).all fun k=>p81 (gt 0 ([c,d,z]:List Int) k))&&decide (0<=c)&&decide (c<=d)&&decide (d<=z)&&decide (z<=1048576)&&decide ((b.size:Int)=d)&&jX k t.size 1048576&&uS nm
def F_BR:Fact E0:=bM 25 Proofs.Tryz.f25 rfl rfl rfl [.g dD] (fun mA _ mC mD mE mF mG mH _ _ _ _ _ _ _ _ _ _ _ _ _ _ _ _ _ _=>.ob (Ai mA) (.b (Ey mC mD mE mF mG mH mA))) [F_Al,Dw,RF] [] (by
   repeat intro _
   refine fD rfl rfl fun hb hk=>?_
   repeat' first|(refine w_ ?_;first|(apply aP;focus (exact fun _=>hb))|refine bO bK @hb ?_)|apply B_<;>intro h hc|apply I_;intro h
   all_goals conv=>whnf
   all_goals rfl)
def MB (x:fB):Bool:=!jX x.Kind 0 4 || !uS x.gD || !Ez x.Obj || !decide ((x.Digest.size:Int)=32)||(!decide ((x.Form.size:Int)=0)&&!decide ((x.Form.size:Int)=32)) || !jX x.Size 0 1048576 || !jX x.At 0 1048576
def ZL (c d z b k:Int):Int×Int:=(jA (k:=0) (v:=77) (fV (k:=0) (v:=77) (fV (k:=0) (v:=77) (fV (k:=0) (v:=77) (fV (k:=0) (v:=77) (fV (k:=0) (v:=77) [] (0:Int) ((0,c):Int×Int)) (1:Int) ((c,d):Int×Int)) (2:Int) ((d,z):Int×Int)) (3:Int) ((0,b):Int×Int)) (4:Int) ((0,b):Int×Int)) k).getD ((0,0):Int×Int)
def sI (c d z b:Int) (x:fB):Bool:=bif MB x then false else decide ((ZL c d z b x.Kind).1<=x.At)&&decide (x.At+x.Size<=(ZL c d z b x.Kind).2)&&(!decide (x.Kind=0)||decide (x.At.tmod 8=0))
def F_BK:Fact E0:=bM 82 Proofs.Tryz.f82 rfl rfl rfl [.g dD,.g JE] (fun _ _ mC mD mE _ _ mH _ _ _ _ _ _ _ _ _ _ _ _ _ _ _ _ _ _ Nk jQ l6 yK rM KS WT=>.ob (Ai jQ/\Ai Nk) (.b (sI mC mD mE mH (⟨Nk,jQ,l6,yK,rM,KS,WT⟩:fB)))) [Dw,RF,F_BI] [] (by
   repeat intro _
   refine fD rfl rfl fun hb hk=>?_
   obtain⟨hb1,hb2⟩:=hb
   repeat' first|(refine w_ ?_;first|(apply aP;focus (first|exact fun _=>hb1|exact fun _=>hb2))|refine bO bK (And.intro @hb1 @hb2) ?_)|apply B_<;>intro h hc|apply I_;intro h
   all_goals conv=>whnf
   all_goals (unfold sI;first|exact gW (by assumption) rfl|exact gB (by assumption) rfl))
def F_BM:Fact E0:=bM 81 Proofs.Tryz.f81 rfl rfl rfl [.i,.g JE,.p dD] (fun _ Nk jQ l6 yK rM KS WT _ _ mC mD mE _ _ mH _ _ _ _ _ _ _ _ _ _ _ _ _ _ _ _ _ _=>.ob (Ai jQ/\Ai Nk) (.b (sI mC mD mE mH (⟨Nk,jQ,l6,yK,rM,KS,WT⟩:fB)))) [F_BK] [] (by
   repeat intro _
   refine fD rfl rfl fun hb hk=>?_
   repeat' first|refine s_ bK @hb ?_|apply B_<;>intro h hc|apply I_;intro h
   all_goals conv=>whnf
   all_goals rfl)
def nnB (L:Li 1) (k:Nat) (m:List (ah 1×ah 2)) (next:List (ah 1×ah 2)->Bool):Bool:=bif !(uS (gt 1 L k)&&!(jA m (gt 1 L k)).getD false)then false else next (fV m (gt 1 L k) true)
def nnF (_:Li 1) (_:List (ah 1×ah 2)):Bool:=true
def nnS (L:Li 1) (nm:ByteArray):Bool:=lp (nnB L) (nnF L) (@ln (ah 1) L) 0 (fV (k:=1) (v:=2) [] nm true)
def MC (nm:ByteArray) (L:Li 1) (v:Li 27):Bool:=decide ((@ln (ah 1) L:Int)<=64)&&j5 v&&nnS L nm
def I_FF:je E0:=kC 96 Proofs.Tryz.f96 rfl rfl
def I_FK:je E0:=kC 97 Proofs.Tryz.f97 rfl rfl
def F_BJ:Fact E0:=bM 31 Proofs.Tryz.f31 rfl rfl rfl [.g dD] (fun mA _ _ _ _ _ _ _ _ _ _ _ _ _ _ _ _ mR mS _ _ _ _ _ _ _=>.ob (vOk mS/\∀ k,k<@ln (ah 1) mR->Ai (gt 1 mR k)) (.b (MC mA mR mS))) [F_Eg,RF] [I_FF,I_FK] (by
   intro mA _ _ _ _ _ _ _ _ _ _ _ _ _ _ _ _ mR mS
   repeat intro _
   refine fD rfl rfl fun hb hk=>?_
   obtain⟨hb1,hb2⟩:=hb;have hg:MC mA mR mS=(decide ((@ln (ah 1) mR:Int)<=64)&&j5 mS&&nnS mR mA):=rfl;have hg2:nnS mR mA=lp (nnB mR) (nnF mR) (@ln (ah 1) mR) 0 (fV (k:=1) (v:=2) [] mA true):=rfl;rw [hg];generalize nnS mR mA=Z at hg2;clear hg
   repeat' first|refine s_ bK @hb1 ?_|apply B_<;>intro h hc|apply I_;intro h
   all_goals conv=>whnf
   ·have hA:(decide ((@ln (ah 1) mR:Int)<=64)&&j5 mS)=true:=by assumption
    refine Or.inr (Or.inr ⟨[],[9],[],[1],[1,7,8],[],?_⟩);conv=>whnf
    refine⟨fun(s:Int×Unit) (t:List (ah 1×ah 2)×Unit)=>∃ k:Nat,s.1=k/\k<=@ln (ah 1) mR/\Z=lp (nnB mR) (nnF mR) (@ln (ah 1) mR-k) k t.1,fun(s:Int×Unit) _=>((@ln (ah 1) mR:Nat)-s.1).toNat,?_⟩
    conv=>whnf
    refine eZ.mk ⟨0,rfl,Nat.zero_le _,hg2⟩ bA ?_;rintro⟨(k:Int),_⟩ ⟨(m0:List (ah 1×ah 2)),_⟩ ⟨k,hk1,hk2,hS⟩;replace hk1:_=(k:Int):=hk1;subst hk1;replace hk2:k<=@ln (ah 1) mR:=hk2;replace hS:Z=lp (nnB mR) (nnF mR) (@ln (ah 1) mR-k) k m0:=hS;refine gK fun K hK=>?_
    by_cases hkl:k<@ln (ah 1) mR
    ·have hd:decide ((k:Int)<(@ln (ah 1) mR:Nat))=true:=decide_eq_true au
     have hsz:=hb2 k hkl;have hS2:=hS.trans (cK hkl)
     repeat' first|(refine jU ?_;first|(apply aP;focus (exact hsz))|refine bO bK trivial ?_)|apply B_<;>intro h hc|apply I_;intro h
     all_goals refine iw ?_
     ·have hZ:Z=false:=hS2.trans (gW hc rfl).symm;rw [hA,hZ];rfl
     ·exact⟨k+1,rfl,hkl,hS2.trans (gB hc rfl).symm⟩
    have hd:decide ((k:Int)<(@ln (ah 1) mR:Nat))=false:=decide_eq_false au
    have hZ:Z=true:=hS.trans (iZ au)
    repeat' first|refine iF ?_|apply B_<;>intro h hc|apply I_;intro h
    all_goals refine iw ?_
    all_goals (rw [hA,hZ];try rfl)
   ·have hA:(decide ((@ln (ah 1) mR:Int)<=64)&&j5 mS)=false:=by assumption
    rw [hA]
    rfl)
abbrev prN (a b:ByteArray):ah 60:=((a,b):ByteArray×ByteArray)
abbrev ZT (l:Li 21) (k:Nat):qo:=gt 21 l k
abbrev s0 (l:Li 0) (k:Nat):Int:=gt 0 l k
def iiB (l:Li 21) (S:Li 0) (c d:Int) (k:Nat) (s:List (ah 60×ah 2)×List (ah 0×ah 2)) (next:List (ah 60×ah 2)×List (ah 0×ah 2)->Bool):Bool :=
 bif (jA s.1 (prN (ZT l k).Name (ZT l k).Version)).getD false||(!decide (s0 S k = -1)&&((jA (k:=0) s.2 (s0 S k)).getD false || !jX (s0 S k) c (IntKind.i64.wrap (d-8)) || !decide ((s0 S k).tmod 8=0)))then false
 else bif !(uS (ZT l k).Name&&Ez (ZT l k).Version&&jX (ZT l k).Kind 0 2)then false
 else next (fV s.1 (prN (ZT l k).Name (ZT l k).Version) true,fV (k:=0) s.2 (s0 S k) true)
def iiF (_:Li 21) (_:Li 0) (_ _:Int) (_:List (ah 60×ah 2)×List (ah 0×ah 2)):Bool:=true
def iiS (l:Li 21) (S:Li 0) (c d:Int):Bool:=lp (iiB l S c d) (iiF l S c d) (@ln (ah 21) l) 0 ([],[])
def tQ (l:Li 21) (S:Li 0) (c d:Int):Bool:=bif decide ((4096:Int)<(@ln (ah 21) l:Nat)) || !decide ((@ln (ah 0) S:Int)=(@ln (ah 21) l:Nat))then false else iiS l S c d
def I_FB:je E0:=kC 91 Proofs.Tryz.f91 rfl rfl
def I_FI:je E0:=kC 92 Proofs.Tryz.f92 rfl rfl
def F_Av:Fact E0:=bM 28 Proofs.Tryz.f28 rfl rfl rfl [.g dD] (fun _ _ mC mD _ _ _ _ _ _ mK mL _ _ _ _ _ _ _ _ _ _ _ _ _ _=>.ob (∀ k,k<@ln (ah 21) mK->Ai (ZT mK k).Name/\Ai (ZT mK k).Version) (.b (tQ mK mL mC mD))) [Dw,RF,F_BI] [I_FB,I_FI] (by
   intro _ _ mC mD _ _ _ _ _ _ mK mL
   repeat intro _
   refine fD rfl rfl fun hb hk=>?_
   have hg2:iiS mK mL mC mD=lp (iiB mK mL mC mD) (iiF mK mL mC mD) (@ln (ah 21) mK) 0 ([],[]):=rfl;have hg:tQ mK mL mC mD=(bif decide ((4096:Int)<(@ln (ah 21) mK:Nat)) || !decide ((@ln (ah 0) mL:Int)=(@ln (ah 21) mK:Nat))then false else iiS mK mL mC mD):=rfl;rw [hg];generalize iiS mK mL mC mD=Z at hg2;clear hg
   repeat' first|(refine w_ ?_;first|refine bO bK trivial ?_|(refine Or.inr (Or.inl ⟨[0,0,0,1,3,3],(.take 3 (.take 0 (.take 1 (.two 2 (.one 4 (.one 5 .done)) 4 (.take 2 (.one 5 .done)))))),by decide +kernel,?_⟩))|(refine Or.inr (Or.inl ⟨[1,0,1,0,1,1,0,1,1,0,2,3,1],(.take 0 (.take 2 (.take 5 (.take 7 (.take 1 (.take 3 (.take 4 (.two 6 (.take 8 (.two 9 (.one 10 (.one 11 (.take 12 .done))) 10 (.two 9 (.one 11 (.take 12 .done)) 11 (.take 9 (.take 12 .done))))) 10 (.two 6 (.take 8 (.two 9 (.one 11 (.take 12 .done)) 11 (.take 9 (.take 12 .done)))) 11 (.take 6 (.take 8 (.take 9 (.take 12 .done))))))))))))),by decide +kernel,?_⟩))|(refine And.intro ?_ ?_))|apply B_<;>intro h hc|apply I_;intro h
   all_goals conv=>whnf
   ·exact(gW (by assumption) rfl)
   have hg0:(decide ((4096:Int)<(@ln (ah 21) mK:Nat)) || !decide ((@ln (ah 0) mL:Int)=(@ln (ah 21) mK:Nat)))=false:=by assumption
   have hlen:@ln (ah 0) mL=@ln (ah 21) mK:=by omega
   refine Or.inr (Or.inr ⟨[],[9],[],[1,3],[1,7,8],[],?_⟩);conv=>whnf
   refine⟨fun(s:Int×Unit) (t:List (ah 60×ah 2)×(List (ah 0×ah 2)×Unit))=>∃ k:Nat,s.1=k/\k<=@ln (ah 21) mK/\Z=lp (iiB mK mL mC mD) (iiF mK mL mC mD) (@ln (ah 21) mK-k) k (t.1,t.2.1),fun(s:Int×Unit) _=>((@ln (ah 21) mK:Nat)-s.1).toNat,?_⟩
   conv=>whnf
   refine eZ.mk ⟨0,rfl,Nat.zero_le _,hg2⟩ bA ?_;rintro⟨(k:Int),_⟩ ⟨(m0:List (ah 60×ah 2)),(m1:List (ah 0×ah 2)),_⟩ ⟨k,hk1,hk2,hS⟩;replace hk1:_=(k:Int):=hk1;subst hk1;replace hk2:k<=@ln (ah 21) mK:=hk2;replace hS:Z=lp (iiB mK mL mC mD) (iiF mK mL mC mD) (@ln (ah 21) mK-k) k (m0,m1):=hS;refine gK fun K hK=>?_
   by_cases hkl:k<@ln (ah 21) mK
   ·have hd:decide ((k:Int)<(@ln (ah 21) mK:Nat))=true:=decide_eq_true au
    have hsz:=hb k hkl;have hs1:=hsz.1;have hs2:=hsz.2;have hS2:=hS.trans (cK hkl)
    repeat' first|(refine jU ?_;first|(apply aP;focus (first|exact fun _=>hs1|exact fun _=>hs2|exact hs1|exact hs2))|refine bO bK trivial ?_|(refine Or.inr (Or.inl ⟨[0,0,0,1,3,3],(.take 3 (.take 0 (.take 1 (.two 2 (.one 4 (.one 5 .done)) 4 (.take 2 (.one 5 .done)))))),by decide +kernel,?_⟩))|(refine Or.inr (Or.inl ⟨[1,0,1,0,1,1,0,1,1,0,2,3,1],(.take 0 (.take 2 (.take 5 (.take 7 (.take 1 (.take 3 (.take 4 (.two 6 (.take 8 (.two 9 (.one 10 (.one 11 (.take 12 .done))) 10 (.two 9 (.one 11 (.take 12 .done)) 11 (.take 9 (.take 12 .done))))) 10 (.two 6 (.take 8 (.two 9 (.one 11 (.take 12 .done)) 11 (.take 9 (.take 12 .done)))) 11 (.take 6 (.take 8 (.take 9 (.take 12 .done))))))))))))),by decide +kernel,?_⟩))|(refine And.intro ?_ ?_))|apply B_<;>intro h hc|apply I_;intro h
    all_goals refine iw ?_
    all_goals first
     |exact hkl
     |(refine gB hg0 ?_;refine Eq.trans ?_ hS2.symm;unfold iiB;all_goals exact lI)
     |(refine hS2.trans ?_;symm;unfold iiB;all_goals exact lI)
     |(refine⟨k+1,rfl,hkl,hS2.trans ?_⟩;symm;unfold iiB;all_goals exact lI)
   have hd:decide ((k:Int)<(@ln (ah 21) mK:Nat))=false:=decide_eq_false au
   have hZ:Z=true:=hS.trans (iZ au)
   repeat' first|(refine jU ?_;first|refine bO bK trivial ?_|(refine Or.inr (Or.inl ⟨[0,0,0,1,3,3],(.take 3 (.take 0 (.take 1 (.two 2 (.one 4 (.one 5 .done)) 4 (.take 2 (.one 5 .done)))))),by decide +kernel,?_⟩))|(refine Or.inr (Or.inl ⟨[1,0,1,0,1,1,0,1,1,0,2,3,1],(.take 0 (.take 2 (.take 5 (.take 7 (.take 1 (.take 3 (.take 4 (.two 6 (.take 8 (.two 9 (.one 10 (.one 11 (.take 12 .done))) 10 (.two 9 (.one 11 (.take 12 .done)) 11 (.take 9 (.take 12 .done))))) 10 (.two 6 (.take 8 (.two 9 (.one 11 (.take 12 .done)) 11 (.take 9 (.take 12 .done)))) 11 (.take 6 (.take 8 (.take 9 (.take 12 .done))))))))))))),by decide +kernel,?_⟩))|(refine And.intro ?_ ?_))|apply B_<;>intro h hc|apply I_;intro h
   all_goals refine iw ?_
   all_goals exact gB hg0 hZ.symm)
end
end Go.SX
