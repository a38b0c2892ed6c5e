/- A part of the proof (texts B68, B69). -/
import Derived.Test.YtpndeclljmdjkaaGreatDoorP10
import Derived.Test.YtpndeclljmdjkaaGreatDoorP40
set_option linter.all false
set_option maxRecDepth 100000
namespace Go.SX
open List renaming length -> ln
open Go.XK Go.RowKit
set_option maxHeartbeats 40000000
noncomputable section
abbrev exA (l:Li 40) (k:Nat):jL:=gt 40 l k
def ieF (most:Int) (x:jL) (m:List (ah 1×ah 2)) (next:List (ah 1×ah 2)->Bool):Bool:=bif !(uS x.Name&&Ez x.Version&&jX x.Kind 0 2&&decide (0<=x.Size)&&jX x.At 0 most)then false else next m
def ieD (most:Int) (x:jL) (m:List (ah 1×ah 2)) (next:List (ah 1×ah 2)->Bool):Bool:=bif x.Main||decide (x.Version=⟨#[]⟩)then(bif (jA (k:=1) m x.Name).getD false then false else ieF most x (fV (k:=1) (v:=2) m x.Name true) next)else ieF most x m next
def ieC (l:Li 40) (most:Int) (k:Nat) (m:List (ah 1×ah 2)) (next:List (ah 1×ah 2)->Bool):Bool:=bif decide ((0:Int)<(k:Int))then(bif decide ((0:Int)<=cOr ([cmpS (exA l ((k:Int)-1).toNat).Name (exA l k).Name,cmpS (exA l ((k:Int)-1).toNat).Version (exA l k).Version]:List Int))then false else ieD most (exA l k) m next)else ieD most (exA l k) m next
def ieB (l:Li 40) (z b:Int) (k:Nat) (m:List (ah 1×ah 2)) (next:List (ah 1×ah 2)->Bool):Bool:=bif decide ((exA l k).Kind=2)then ieC l b k m next else ieC l z k m next
def ieE (_:Li 40) (_ _:Int) (_:List (ah 1×ah 2)):Bool:=true
def ieS (l:Li 40) (z b:Int):Bool:=lp (ieB l z b) (ieE l z b) (@ln (ah 40) l) 0 []
def C9 (l:Li 40) (z b:Int):Bool:=decide ((@ln (ah 40) l:Int)<=4096)&&ieS l z b
def I_FA:je E0:=kC 86 Proofs.Tryz.f86 rfl rfl
def I_FH:je E0:=kC 87 Proofs.Tryz.f87 rfl rfl
def F_Au:Fact E0:=bM 27 Proofs.Tryz.f27 rfl rfl rfl [.g dD] (fun _ _ _ _ mE _ _ mH _ mJ _ _ _ _ _ _ _ _ _ _ _ _ _ _ _ _=>.ob (∀ k,k<@ln (ah 40) mJ->Ai (exA mJ k).Name/\Ai (exA mJ k).Version) (.b (C9 mJ mE mH))) [Dw,RF,F_BI,F_AT,F_AS] [I_FA,I_FH] (by
   intro _ _ _ _ mE _ _ mH _ mJ
   repeat intro _
   refine fD rfl rfl fun hb hk=>?_
   have hg2:ieS mJ mE mH=lp (ieB mJ mE mH) (ieE mJ mE mH) (@ln (ah 40) mJ) 0 []:=rfl;have hg:C9 mJ mE mH=(decide ((@ln (ah 40) mJ:Int)<=4096)&&ieS mJ mE mH):=rfl;rw [hg];generalize ieS mJ mE mH=Z at hg2;clear hg
   repeat' first|refine dM ?_|apply B_<;>intro h hc|apply I_;intro h
   all_goals conv=>whnf
   ·have hA:decide ((@ln (ah 40) mJ:Int)<=4096)=true:=by assumption
    refine Or.inr (Or.inr ⟨[],[9],[],[1],[1,7,8],[],?_⟩);conv=>whnf
    refine⟨fun(s:Int×Unit) (t:List (ah 1×ah 2)×Unit)=>∃ k:Nat,s.1=k/\k<=@ln (ah 40) mJ/\Z=lp (ieB mJ mE mH) (ieE mJ mE mH) (@ln (ah 40) mJ-k) k t.1,fun(s:Int×Unit) _=>((@ln (ah 40) mJ:Nat)-s.1).toNat,?_⟩
    conv=>whnf
    refine eZ.mk ⟨0,rfl,Nat.zero_le _,hg2⟩ bA ?_;rintro⟨(k:Int),_⟩ ⟨(m0:List (ah 1×ah 2)),_⟩ ⟨k,hk1,hk2,hS⟩;replace hk1:_=(k:Int):=hk1;subst hk1;replace hk2:k<=@ln (ah 40) mJ:=hk2;replace hS:Z=lp (ieB mJ mE mH) (ieE mJ mE mH) (@ln (ah 40) mJ-k) k m0:=hS;refine gK fun K hK=>?_
    by_cases hkl:k<@ln (ah 40) mJ
    ·have hd:decide ((k:Int)<(@ln (ah 40) mJ:Nat))=true:=decide_eq_true au
     have hsz:=hb k hkl;have hs1:=hsz.1;have hs2:=hsz.2;have hS2:=hS.trans (cK hkl)
     repeat' first|(refine jU ?_;first|(apply aP;focus (first|exact fun _=>hs1|exact fun _=>hs2|exact hs1|exact hs2))|refine bO bK trivial ?_)|apply B_<;>intro h hc|apply I_;intro h
     all_goals refine iw ?_
     all_goals first
      |(rw [hA,Bool.true_and];refine Eq.trans ?_ hS2.symm;unfold ieB ieC ieD ieF;all_goals exact lI)
      |(refine⟨k+1,rfl,hkl,hS2.trans ?_⟩;symm;unfold ieB ieC ieD ieF;all_goals exact lI)
    have hd:decide ((k:Int)<(@ln (ah 40) mJ:Nat))=false:=decide_eq_false au
    have hZ:Z=true:=hS.trans (iZ au)
    repeat' first|refine iF ?_|apply B_<;>intro h hc|apply I_;intro h
    all_goals refine iw ?_
    all_goals (rw [hA,hZ];try rfl)
   ·have hA:decide ((@ln (ah 40) mJ:Int)<=4096)=false:=by assumption
    rw [hA]
    rfl)
def ZQ (c:Int) (x:rZ):Bool:=lp (oW (fun k=>ZK (gt 29 x.kS k))) oV x.kS.length 0 ()&&uS x.gD&&Ez x.Obj&&decide ((x.From.size:Int)=32)&&(decide (x.Code = -1)||tK c x.Code)&&decide ((x.kS.length:Int)<=64)
def CvOk (l:Li 49):Prop:=∀ k,k<@ln (ah 49) l->Ai (gt 49 l k).gD/\Ai (gt 49 l k).Obj
def J6 (c:Int) (l:Li 49):Bool:=decide ((@ln (ah 49) l:Int)<=4096)&&lp (oW (fun k=>ZQ c (gt 49 l k))) oV l.length 0 ()
def F_Ar:Fact E0:=bM 118 Proofs.Tryz.f118 rfl rfl rfl [.i,.g q_TConv,.p dD] (fun _ Nk jQ gV KR WU _ _ mC _ _ _ _ _ _ _ _ _ _ _ _ _ _ _ _ _ _ _ _ _ _ _=>.ob (Ai jQ/\Ai Nk) (.b (ZQ mC (⟨Nk,jQ,gV,KR,WU⟩:rZ)))) [F_Ai,RF,F_BI,F_BG] [] (by
   repeat intro _
   refine fD rfl rfl fun hb hk=>?_
   obtain⟨hb1,hb2⟩:=hb
   repeat' first|(refine w_ ?_;first|(apply aP;focus (first|exact fun _=>hb1|exact fun _=>hb2))|refine bO bK (And.intro @hb1 @hb2) ?_)|apply B_<;>intro h hc|apply I_;intro h
   all_goals conv=>whnf
   all_goals rfl)
def F_Ad:Fact E0:=bM 117 Proofs.Tryz.f117 rfl rfl rfl [.l 49,.k 118 [] [.p dD]] (fun l _ _ mC _ _ _ _ _ _ _ _ _ _ _ _ _ _ _ _ _ _ _ _ _ _ _=>.ob (CvOk l) (.b (lp (oW (fun k=>ZQ mC (gt 49 l k))) oV l.length 0 ()))) [F_Ar] [] (by
   intro l _ _ mC
   repeat intro _
   refine fD rfl rfl fun hb hk=>?_
   simp only [know]at hk
   repeat' first|(refine w_ ?_;first|(apply aP;focus (exact hb _ au))|refine bO bK trivial ?_)|apply B_<;>intro h hc|apply I_;intro h
   all_goals conv=>whnf
   refine Or.inr (Or.inr ⟨[],[9],[],[],[1,7,8],[],?_⟩);conv=>whnf
   refine⟨fun(s:Int×Unit) (t:Unit)=>0<=s.1/\s.1<=l.length/\lp (oW (fun k=>ZQ mC (gt 49 l k))) oV l.length 0 ()=lp (oW (fun k=>ZQ mC (gt 49 l k))) oV (l.length-s.1.toNat) s.1.toNat (()),fun(s:Int×Unit) (_:Unit)=>(l.length-s.1).toNat,?_⟩
   conv=>whnf
   refine eZ.mk ⟨bg,bg,rfl⟩ bA ?_
   rintro⟨(k:Int),_⟩ _ ⟨h0,h1,hS⟩
   try dsimp only at h0 h1 hS
   obtain⟨k,rfl⟩:=Int.eq_ofNat_of_zero_le (show(0:Int)<=k by omega)
   rw [Int.toNat_natCast]at hS
   repeat' first|(refine w_ ?_;first|(apply aP;focus (exact hb _ au))|refine bO bK trivial ?_)|apply B_<;>intro h hc|apply I_;intro h
   all_goals conv=>whnf
   all_goals exact l5)
def F_Aq:Fact E0:=bM 33 Proofs.Tryz.f33 rfl rfl rfl [.g dD] (fun _ _ mC _ _ _ _ _ _ _ _ _ _ _ _ _ _ _ _ _ _ _ _ _ _ mZ=>.ob (CvOk mZ) (.b (J6 mC mZ))) [F_Ad] [] (by
   repeat intro _
   refine fD rfl rfl fun hb hk=>?_
   repeat' first|(refine w_ ?_;first|(apply aP;focus (exact fun _=>hb))|refine bO bK @hb ?_)|apply B_<;>intro h hc|apply I_;intro h
   all_goals conv=>whnf
   all_goals rfl)
end
end Go.SX
