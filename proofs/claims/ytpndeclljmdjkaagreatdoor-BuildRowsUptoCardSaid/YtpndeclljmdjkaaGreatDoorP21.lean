/- A part of the proof (texts B13, B14, B15). -/
import Derived.Test.YtpndeclljmdjkaaGreatDoorP10
import Derived.Test.YtpndeclljmdjkaaGreatDoorP19
import Derived.Test.YtpndeclljmdjkaaGreatDoorP20
set_option linter.all false
set_option maxRecDepth 100000
namespace Go.SX
open Int renaming eq_ofNat_of_zero_le -> cO
open Go.XK Go.RowKit
set_option maxHeartbeats 40000000
noncomputable section
def F_DF:Fact E0:=⟨322,a23,by unfold dA;kernel_rfl,o23⟩
def AO (n:ByteArray) (S:Li 61) (Y:Li 63) (R:Li 65) (G:Li 67) (I:Li 69) (L:Li 11) (N:Li 13) (V:Li 46) (D:Li 17) (C:Li 71):Bool :=
 bif !Gq S then false else bif !Qs S Y then false else bif !Gs S Y.length R then false else bif !YH S.length G then false else bif !SK Y I then false else bif !SH S L then false else bif !Gu S N then false else bif !YE S Y V then false else bif !YJ S D then false else bif !obCvs S Y C then false else jK n
def F_Bj:Fact E0:=bM 125 Proofs.Tryz.f125 rfl rfl rfl [.g bL] (fun oName dw iJ YM gq Qy Qx fG YL L6 CJ=>.ob (gS gq 0<=1099511627776) (.b (AO oName dw iJ YM gq Qy Qx fG YL L6 CJ))) [F_Cb,F_Cg,F_CY,F_CL,F_CQ,F_CV,F_CS,F_Cj,F_CI,F_CC,WC] [] (by
   repeat intro _
   refine fD rfl rfl fun hb hk=>?_
   repeat' first|refine dM ?_|apply B_<;>intro h hc|apply I_;intro h
   all_goals conv=>whnf
   refine Or.inr (Or.inl ⟨11,?_⟩);conv=>whnf
   repeat' first|refine dM ?_|apply B_<;>intro h hc|apply I_;intro h
   all_goals conv=>whnf
   all_goals (unfold AO;(repeat (first|exact rfl|refine gW (by assumption) ?_|refine gB (by assumption) ?_|refine jY (by first|assumption|omega) ?_|refine jZ (by first|assumption|omega) ?_))))
def WA:Fact E0:=bM 121 Proofs.Tryz.f121 rfl rfl rfl [.s] (fun s=>.ok (.b (jK s))) [F_Bj] [] (by
   repeat intro _
   refine dP rfl rfl fun hk=>?_
   repeat' first|(refine w_ ?_;first|(apply aP;focus (exact Nat.zero_le _))|refine bO bK trivial ?_)|apply B_<;>intro h hc|apply I_;intro h
   all_goals conv=>whnf
   all_goals rfl)
def unB (L:Li 1) (k:Nat) (_:Unit) (next:Unit->Bool):Bool :=
 bif !jK (gt 1 L k)then false else bif decide (0<=idxS (L.take k) (gt 1 L k))then false else next ()
def unF (L:Li 1) (n:Int) (_:Unit):Bool:=decide ((L.length:Int)<=n)
def La (L:Li 1) (n:Int):Bool:=lp (unB L) (unF L n) L.length 0 ()
def F_EV:Fact E0:=bM 122 Proofs.Tryz.f122 rfl rfl rfl [.l 1,.i] (fun l n=>.ok (.b (La l n))) [WA,F_DX] [] (by
   intro l n;refine dP rfl rfl fun hk=>?_
   simp only [know]at hk
   repeat' first|refine dM ?_|apply B_<;>intro h hc|apply I_;intro h
   all_goals conv=>whnf
   refine Or.inr (Or.inr ⟨[],[9,18,19,20,21,22],[],[],[0,1,7,8],[],?_⟩);conv=>whnf
   refine⟨fun(s:Int×Unit) (t:Unit)=>0<=s.1/\s.1<=l.length/\La l n=lp (unB l) (unF l n) (l.length-s.1.toNat) s.1.toNat (()),fun(s:Int×Unit) (_:Unit)=>(l.length-s.1).toNat,?_⟩
   conv=>whnf
   refine eZ.mk ⟨bg,bg,rfl⟩ bA ?_
   rintro⟨(k:Int),_⟩ _ ⟨h0,h1,hS⟩
   try dsimp only at h0 h1 hS
   obtain⟨k,rfl⟩:=cO (show(0:Int)<=k by omega)
   rw [Int.toNat_natCast]at hS
   repeat' first|refine dM ?_|apply B_<;>intro h hc|apply I_;intro h
   all_goals conv=>whnf
   all_goals exact l5)
def K9 (k:Int):Bool:=decide (0<=Ho [0,4,8,9] k)
def unImp (k:Int):Bool:=!decide (0<=Ho [2,3,5,10] k)
def F_Ed:Fact E0:=bM 211 Proofs.Tryz.f211 rfl rfl rfl [.i] (fun k=>.ok (.b (K9 k))) [WB] [] kI
def F_EH:Fact E0:=bM 213 Proofs.Tryz.f213 rfl rfl rfl [.i] (fun k=>.ok (.b (unImp k))) [WB] [] kI
def R8 (k n:Int):Bool :=
 bif decide (n=2)then(decide (k=10)||decide (k=11)||decide (k=12))||decide (k=4)
 else !(decide (k=10)||decide (k=11)||decide (k=12))&&(!(decide (k=6)||decide (k=7))||decide (n=0))
def F_Ef:Fact E0:=bM 212 Proofs.Tryz.f212 rfl rfl rfl [.i,.i] (fun k n=>.ok (.b (R8 k n))) [] [] kI
def F_EG:Fact E0:=bM 214 Proofs.Tryz.f214 rfl rfl rfl [.i,.i] (fun a k=>.ob (lC (a+(cu k).1)/\lC (a+(cu k).1+(cu k).2)) (.jm [.i (a+(cu k).1),.i (a+(cu k).1+(cu k).2)])) [F_DF] [] (by
   repeat intro _
   refine fD rfl rfl fun hb hk=>?_
   repeat' first|refine dM ?_|apply B_<;>intro h hc|apply I_;intro h
   all_goals conv=>whnf
   all_goals exact bA)
def BP (N:Li 19) (I:Li 21) (t:bE):Bool :=
 bif decide (t.Kind=0)then decide (0<=t.N)&&decide (t.N<(N.length:Int))&&decide (0<=t.Off)&&decide (t.Off<=(gt 19 N t.N.toNat).Size)&&decide (0<=t.Size)
 else bif decide (t.Kind=1)then decide (0<=t.N)&&decide (t.N<(I.length:Int))&&decide (t.Off=0)&&decide (t.Size=0)
 else decide (t.Kind=2)&&(decide (t.N=0)&&(decide (t.Off=0)&&(decide (t.Size=0)&&true)))
theorem sD {N:Li 19} {I:Li 21} {t:bE} (h:BP N I t=true) (hk:t.Kind=0):0<=t.N/\t.N<(N.length:Int):=by
 unfold BP at h;rw [decide_eq_true hk]at h;simp only [cond_true,bs]at h;exact h.1.1.1
theorem PX {N:Li 19} {I:Li 21} {t:bE} (h:BP N I t=true) (hk:t.Kind=1):0<=t.N/\t.N<(I.length:Int):=by
 unfold BP at h;rw [decide_eq_false (by omega:¬ t.Kind=0),decide_eq_true hk]at h
 simp only [cond_true,cond_false,bs]at h;exact h.1.1
def F_Dv:Fact E0:=bM 135 Proofs.Tryz.f135 rfl rfl rfl [.g dH,.g fC] (fun _ _ aj ak _ _ _ _ _ _ _ _ _ _ nM tN zu qI=>.ok (.b (BP aj ak (⟨nM,tN,zu,qI⟩:bE)))) [] [] kI
def l8 (N:Li 19) (I:Li 21) (v:bQ):Bool :=
 bif !decide (v.Where=2)then(decide (v.Target.Kind=2)&&(decide (v.Target.N=0)&&(decide (v.Target.Off=0)&&(decide (v.Target.Size=0)&&true))))
 else decide (v.N=0)&&((decide (v.Target.Kind=2)&&(decide (v.Target.N=0)&&(decide (v.Target.Off=0)&&(decide (v.Target.Size=0)&&true))))||(decide (v.Target.Kind=0)&&BP N I v.Target))
def F_EF:Fact E0:=bM 134 Proofs.Tryz.f134 rfl rfl rfl [.g dH,.g uK] (fun _ _ aj ak _ _ _ _ _ _ _ _ _ _ qE PU lW lF vN eD iT gH fq=>.ok (.b (l8 aj ak (⟨qE,PU,lW,lF,vN,⟨eD,iT,gH,fq⟩⟩:bQ)))) [F_Dv] [] kI
def Lc (r:gX) (kind:Int):Bool:=R8 r.Kind kind&&(!decide (r.Kind=7)||decide (r.To.Kind=1))&&(!decide (r.To.Kind=1)||unImp r.Kind)
def BO (N:Li 19) (I:Li 21) (r:gX):Bool :=
 bif !BP N I r.To then false else bif decide (r.To.Kind=2)&&!K9 r.Kind then false
 else bif decide (r.To.Kind=0)then Lc r (BN (gt 19 N r.To.N.toNat).Kind)else bif decide (r.To.Kind=1)then Lc r (gt 21 I r.To.N.toNat).Kind else Lc r 1
def F_Dw:Fact E0:=bM 130 Proofs.Tryz.f130 rfl rfl rfl [.g dH,.g zH] (fun _ _ aj ak _ _ _ _ _ _ _ _ _ _ pX dB dn jM dV dh jc=>.ok (.b (BO aj ak (⟨pX,dB,⟨dn,jM,dV,dh⟩,jc⟩:gX)))) [F_Dv,F_Ed,F_EM,F_Ef,F_EH] [] (by
   repeat intro _
   refine dP rfl rfl fun hk=>?_
   repeat' first|(refine w_ ?_;first|(apply aP;focus (first|exact sD (by assumption) (by assumption)|exact PX (by assumption) (by assumption)))|refine bO bK trivial ?_)|apply B_<;>intro h hc|apply I_;intro h
   all_goals conv=>whnf
   all_goals (unfold BO Lc;(repeat (first|exact rfl|refine gW (by assumption) ?_|refine gB (by assumption) ?_|refine jY (by first|assumption|omega) ?_|refine jZ (by first|assumption|omega) ?_))))
def nR (N:Li 19) (I:Li 21) (t:bE):Bool :=
 bif !decide (t.Kind=0) || !BP N I t then false else decide ((gt 19 N t.N.toNat).Kind=0)&&decide (t.Off.tmod 8=0)
def F_Dr:Fact E0:=bM 138 Proofs.Tryz.f138 rfl rfl rfl [.g dH,.g fC] (fun _ _ aj ak _ _ _ _ _ _ _ _ _ _ nM tN zu qI=>.ok (.b (nR aj ak (⟨nM,tN,zu,qI⟩:bE)))) [F_Dv] [] (by
   repeat intro _
   refine dP rfl rfl fun hk=>?_
   repeat' first|(refine w_ ?_;first|(apply aP;focus (exact sD (And.right (by assumption)) (And.left (by assumption))))|refine bO bK trivial ?_)|apply B_<;>intro h hc|apply I_;intro h
   all_goals conv=>whnf
   all_goals (unfold nR;(repeat (first|exact rfl|refine gW (by assumption) ?_|refine gB (by assumption) ?_|refine jY (by first|assumption|omega) ?_|refine jZ (by first|assumption|omega) ?_))))
def F_Dt:Fact E0:=bM 137 Proofs.Tryz.f137 rfl rfl rfl [.g fC,.p dH] (fun nM tN zu qI _ _ aj ak _ _ _ _ _ _ _ _ _ _=>.ok (.b (!nR aj ak (⟨nM,tN,zu,qI⟩:bE)))) [F_Dr] [] kI
def unMkB (K S:Int) (M:Li 9) (k:Nat) (_:Unit) (next:Unit->Bool):Bool :=
 bif decide (BN K=2) || !jK (gt 9 M k).Name || !decide ((gt 9 M k).Kind=BN K)||decide ((gt 9 M k).At<0)||decide ((gt 9 M k).Size<0)||decide (S<(gt 9 M k).At)||decide (S-(gt 9 M k).At<(gt 9 M k).Size)||(decide (0<(k:Int))&&decide ((gt 9 M k).At<(gt 9 M ((k:Int)-1).toNat).At))then false else next ()
def unMkF (_:Unit):Bool:=true
def Lb (K S:Int) (M:Li 9):Bool:=lp (unMkB K S M) unMkF M.length 0 ()
def F_ET:Fact E0:=bM 127 Proofs.Tryz.f127 rfl rfl rfl [.g uL] (fun _ _ jW _ iU _ _ dN _ _ _ _=>.ok (.b (Lb jW iU dN))) [F_EM,WA] [] (by
   intro _ _ jW _ iU _ _ dN
   repeat intro _
   refine dP rfl rfl fun hk=>?_
   simp only [know]at hk
   repeat' first|refine dM ?_|apply B_<;>intro h hc|apply I_;intro h
   all_goals conv=>whnf
   refine Or.inr (Or.inr ⟨[],[9],[],[],[1,7,8],[],?_⟩);conv=>whnf
   refine⟨fun(s:Int×Unit) (t:Unit)=>0<=s.1/\s.1<=dN.length/\Lb jW iU dN=lp (unMkB jW iU dN) unMkF (dN.length-s.1.toNat) s.1.toNat (()),fun(s:Int×Unit) (_:Unit)=>(dN.length-s.1).toNat,?_⟩
   conv=>whnf
   refine eZ.mk ⟨bg,bg,rfl⟩ bA ?_
   rintro⟨(k:Int),_⟩ _ ⟨h0,h1,hS⟩
   try dsimp only at h0 h1 hS
   obtain⟨k,rfl⟩:=cO (show(0:Int)<=k by omega)
   rw [Int.toNat_natCast]at hS
   repeat' first|refine dM ?_|apply B_<;>intro h hc|apply I_;intro h
   all_goals conv=>whnf
   all_goals exact l5)
def vY (R:Li 7) (j:Nat):ah 65:=(⟨0,(gt 7 R j).At,(gt 7 R j).Kind,0,(gt 7 R j).Add⟩:Pd)
def j6 (R:Li 7) (k:Nat):Li 65:=(List.range k).map (vY R)
def Xk (V:Li 15) (j:Nat):ah 46:=(⟨0,(gt 15 V j).From,(gt 15 V j).To,(gt 15 V j).Name,(gt 15 V j).Where,(gt 15 V j).N⟩:kR)
def qF (V:Li 15) (k:Nat):Li 46:=(List.range k).map (Xk V)
theorem Xo (R:Li 7) (k:Nat):j6 R (k+1)=j6 R k++[vY R k]:=by simp [j6,List.range_succ]
theorem Xi (R:Li 15) (k:Nat):qF R (k+1)=qF R k++[Xk R k]:=by simp [qF,List.range_succ]
theorem Nr (R:Li 7) (k:Nat):(j6 R k).length=k:=by simp [j6]
theorem Xj (R:Li 15) (k:Nat):(qF R k).length=k:=by simp [qF]
def qG (n:aM):Li 61:=[(⟨n.gD,n.Kind,n.Align,n.Size,n.Bytes,false⟩:xO)]
def vk:Li 63:=[(⟨⟨#[100]⟩,⟨#[]⟩,false,1,0,1,-1,0,0,0⟩:yJ)]
def F_Ee:Fact E0:=bM 126 Proofs.Tryz.f126 rfl rfl rfl [.g uL] (fun uO uN jW jR iU nBytes iy dN dR bI dF cB=>.ok (.agg [.str ⟨#[111]⟩,.aW none 61 (qG (⟨uO,uN,jW,jR,iU,nBytes,iy,dN,dR,bI,dF,cB⟩:aM)),.aW none 63 vk,.aW none 65 (j6 iy iy.length),.v (.slice none 0 0),.v (.slice none 0 0),.aW none 11 dR,.aW none 13 bI,.aW none 46 (qF dF dF.length),.aW none 17 cB,.v (.slice none 0 0)])) [] [] (by
   intro uO uN jW jR iU nBytes iy dN dR bI dF cB;refine dP rfl rfl fun hk=>?_
   simp only [know]at hk
   repeat' first|refine dM ?_|apply B_<;>intro h hc|apply I_;intro h
   all_goals conv=>whnf
   refine Or.inr (Or.inr ⟨[(400003,298,65)],[32],[],[4],[1,2,3,30,31],[2,3],?_⟩);conv=>whnf
   refine⟨fun(s:Int×Unit) (t:(ByteArray×Unit×Unit×Unit×Unit×Unit×Li 11×Li 13×Unit×Li 17×Unit×Unit)×Li 61×Li 63×Li 65×Unit)=>0<=s.1/\s.1<=iy.length/\t=(((⟨#[111]⟩:ByteArray),(),(),(),(),(),dR,bI,(),cB,(),()),qG (⟨uO,uN,jW,jR,iU,nBytes,iy,dN,dR,bI,dF,cB⟩:aM),vk,j6 iy s.1.toNat,()),fun(s:Int×Unit) _=>(iy.length-s.1).toNat,?_⟩
   conv=>whnf
   refine eZ.mk ⟨bg,bg,rfl⟩ bA ?_
   rintro⟨(k:Int),_⟩ _ ⟨h0,h1,rfl⟩
   try dsimp only at h0 h1
   obtain⟨k,rfl⟩:=cO h0;have hl:=Nr iy k
   repeat' first|(refine w_ ?_;first|(apply aP;focus (have hq:iy.length*56<=140737488355328:=And.left (by assumption:iy.length*BT 7<=140737488355328/\iy.length<=140737488355328)<;>show((j6 iy k).length+1)*40<=_<;>omega))|refine bO bK trivial ?_)|apply B_<;>intro h hc|apply I_;intro h
   all_goals conv=>whnf
   ·(try dsimp only);refine⟨au,au,?_⟩
    show _=(((⟨#[111]⟩:ByteArray),(),(),(),(),(),dR,bI,(),cB,(),()),qG (⟨uO,uN,jW,jR,iU,nBytes,iy,dN,dR,bI,dF,cB⟩:aM),vk,j6 iy (k+1),());rw [Xo];rfl
   refine Or.inr (Or.inr ⟨[(900003,88,46)],[52],[],[4],[2,3,50,51],[5,6,7],?_⟩);conv=>whnf
   refine⟨fun(s:Int×Unit) (t:(ByteArray×Unit×Unit×Unit×Unit×Unit×Li 11×Li 13×Unit×Li 17×Unit×Unit)×Li 61×Li 63×Li 65×Li 46×Unit)=>0<=s.1/\s.1<=dF.length/\t=(((⟨#[111]⟩:ByteArray),(),(),(),(),(),dR,bI,(),cB,(),()),qG (⟨uO,uN,jW,jR,iU,nBytes,iy,dN,dR,bI,dF,cB⟩:aM),vk,j6 iy iy.length,qF dF s.1.toNat,()),fun(s:Int×Unit) _=>(dF.length-s.1).toNat,?_⟩
   conv=>whnf
   have ek:k=iy.length:=by omega
   subst ek;refine eZ.mk ⟨bg,bg,rfl⟩ bA ?_
   rintro⟨(k:Int),_⟩ _ ⟨g0,g1,rfl⟩
   try dsimp only at g0 g1
   obtain⟨k,rfl⟩:=cO g0;have hl2:=Xj dF k
   repeat' first|(refine w_ ?_;first|(apply aP;focus (have hq:dF.length*80<=140737488355328:=And.left (by assumption:dF.length*BT 15<=140737488355328/\dF.length<=140737488355328)<;>show((qF dF k).length+1)*56<=_<;>omega))|refine bO bK trivial ?_)|apply B_<;>intro h hc|apply I_;intro h
   all_goals conv=>whnf
   ·(try dsimp only);refine⟨au,au,?_⟩
    show _=(((⟨#[111]⟩:ByteArray),(),(),(),(),(),dR,bI,(),cB,(),()),qG (⟨uO,uN,jW,jR,iU,nBytes,iy,dN,dR,bI,dF,cB⟩:aM),vk,j6 iy iy.length,qF dF (k+1),());rw [Xi];rfl
   have ek:k=dF.length:=by omega
   subst ek
   refine w_ ?_;repeat' (first|((with_reducible apply And.intro)<;>(first|(with_reducible refine iK ?_;apply rfl)|(with_reducible refine eY ?_;apply rfl)|(refine w_ ?_)))|(with_reducible apply trivial)|apply rfl|apply(Or.inl rfl)|apply(Or.inr rfl)|apply(Or.inr (Or.inl rfl))|apply trivial|(apply And.intro<;>(refine w_ ?_))))
end
end Go.SX
