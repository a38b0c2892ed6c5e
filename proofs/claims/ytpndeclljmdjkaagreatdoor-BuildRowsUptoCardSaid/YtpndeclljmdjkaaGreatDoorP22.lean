/- A part of the proof (texts B22, B23, B24, B25). -/
import Derived.Test.YtpndeclljmdjkaaGreatDoorP10
import Derived.Test.YtpndeclljmdjkaaGreatDoorP18
import Derived.Test.YtpndeclljmdjkaaGreatDoorP21
set_option linter.all false
set_option maxRecDepth 100000
namespace Go.SX
open Int renaming eq_ofNat_of_zero_le -> cO,toNat_natCast -> bP
open List renaming length -> ln
open Go.XK Go.RowKit
set_option maxHeartbeats 40000000
noncomputable section
abbrev g8 (l:Li 3) (k:Nat):UInt8:=gt 3 l k
def unBkB (l:Li 3) (k:Nat) (_:Unit) (next:Unit->Bool):Bool:=bif !decide (g8 l k=UInt8.ofNat 0)then false else next ()
def unBkF (_:Unit):Bool:=true
def unBlS (l:Li 3):Bool:=lp (unBkB l) unBkF l.length 0 ()
def Ld (s:ByteArray) (r:gX):Bool:=unBlS (s.extract (r.At+(cu r.Kind).1).toNat (r.At+(cu r.Kind).1+(cu r.Kind).2).toNat).data.toList
def Sb (s:ByteArray) (r:gX):Prop:=0<=r.At+(cu r.Kind).1/\0<=(cu r.Kind).2/\r.At+(cu r.Kind).1+(cu r.Kind).2<=s.size
def F_Dq:Fact E0:=bM 131 Proofs.Tryz.f131 rfl rfl rfl [.g uL,.g zH] (fun _ _ _ _ _ nBytes _ _ _ _ _ _ pX dB dn jM dV dh jc=>.ob (Sb nBytes (⟨pX,dB,⟨dn,jM,dV,dh⟩,jc⟩:gX)/\(nBytes.size:Int)<=1048576) (.b (Ld nBytes (⟨pX,dB,⟨dn,jM,dV,dh⟩,jc⟩:gX)))) [F_EG] [] (by
   intro _ _ _ _ _ nBytes _ _ _ _ _ _ pX dB dn jM dV dh jc;refine fD rfl rfl fun hb hk=>?_
   have hp:0<=pX+(cu dB).1/\0<=(cu dB).2/\pX+(cu dB).1+(cu dB).2<=nBytes.size:=hb.1;have hs:=hb.2;have hz2:(nBytes.extract (pX+(cu dB).1).toNat (pX+(cu dB).1+(cu dB).2).toNat).size<=nBytes.size:=by rw [ByteArray.size_extract];omega
   repeat' first|(refine w_ ?_;first|(apply aP;focus (refine⟨⟨?_,?_⟩,⟨?_,?_⟩⟩<;>omega))|refine bO bK trivial ?_)|apply B_<;>intro h hc|apply I_;intro h
   all_goals conv=>whnf
   refine Or.inr (Or.inr ⟨[],[24],[],[],[22,23],[],?_⟩);conv=>whnf
   refine⟨fun(s:Int×Unit) (t:Unit)=>0<=s.1/\s.1<=(@ln (ah 3) (nBytes.extract (pX+(cu dB).1).toNat (pX+(cu dB).1+(cu dB).2).toNat).data.toList)/\Ld nBytes (⟨pX,dB,⟨dn,jM,dV,dh⟩,jc⟩:gX)=lp (unBkB (nBytes.extract (pX+(cu dB).1).toNat (pX+(cu dB).1+(cu dB).2).toNat).data.toList) unBkF ((@ln (ah 3) (nBytes.extract (pX+(cu dB).1).toNat (pX+(cu dB).1+(cu dB).2).toNat).data.toList)-s.1.toNat) s.1.toNat (()),fun(s:Int×Unit) (_:Unit)=>((@ln (ah 3) (nBytes.extract (pX+(cu dB).1).toNat (pX+(cu dB).1+(cu dB).2).toNat).data.toList)-s.1).toNat,?_⟩
   conv=>whnf
   refine eZ.mk ⟨bg,bg,rfl⟩ bA ?_
   rintro⟨(k:Int),_⟩ _ ⟨h0,h1,hS⟩
   try dsimp only at h0 h1 hS
   obtain⟨k,rfl⟩:=cO (show(0:Int)<=k by omega)
   rw [bP]at hS
   repeat' first|(refine w_ ?_;first|(apply aP;focus (refine⟨⟨?_,?_⟩,⟨?_,?_⟩⟩<;>omega))|refine bO bK trivial ?_)|apply B_<;>intro h hc|apply I_;intro h
   all_goals conv=>whnf
   all_goals exact l5)
theorem rlW {k:Int} (h0:0<=k) (h1:k<13):0<=(cu k).1/\0<=(cu k).2/\(cu k).1+(cu k).2<=kM k:=by
 have:k=0\/k=1\/k=2\/k=3\/k=4\/k=5\/k=6\/k=7\/k=8\/k=9\/k=10\/k=11\/k=12:=by omega
 rcases this with rfl|rfl|rfl|rfl|rfl|rfl|rfl|rfl|rfl|rfl|rfl|rfl|rfl<;>decide +kernel
theorem Xp (R:Li 7) {k n:Nat} (h:k<n):gt 65 (j6 R n) k=vY R k:=by
 unfold j6;show((List.range n).map (vY R)).getD k _=_;rw [List.getD_eq_getElem?_getD,List.getElem?_map,List.getElem?_range h];rfl
def DI (n:aM):Bool:=AO ⟨#[111]⟩ (qG n) vk (j6 n.Refs (@ln (ah 7) n.Refs)) [] [] n.Lines n.dK (qF n.Vars (@ln (ah 15) n.Vars)) n.gy []
theorem smp_3 {n:aM} (h:DI n=true):Gq (qG n)=true/\Gs (qG n) vk.length (j6 n.Refs (@ln (ah 7) n.Refs))=true:=by
 unfold DI AO at h
 cases h1:Gq (qG n)with
 |false=>rw [h1]at h;cases h
 |true =>
   rw [h1]at h
   cases h2:Qs (qG n) vk with
   |false=>rw [h2]at h;cases h
   |true =>
     rw [h2]at h
     cases h3:Gs (qG n) vk.length (j6 n.Refs (@ln (ah 7) n.Refs))with
     |false=>rw [h3]at h;cases h
     |true=>exact⟨rfl,rfl⟩
theorem smp_s {n:aM} (h:DI n=true):JK n.gD n.Kind n.Align n.Size n.Bytes=true:=by
 have h1:=(smp_3 h).1;simp only [Gq,bs]at h1;exact List.all_eq_true.1 h1.1.2 0 (List.mem_range.2 Nat.one_pos)
theorem Aq {n:aM} (h:DI n=true):(n.Bytes.size:Int)<=1048576/\0<=n.Size/\n.Size<=1048576/\(n.Kind=0\/n.Kind=1->(n.Bytes.size:Int)=n.Size)/\n.Align≠0:=by
 have h1:=smp_s h;simp only [JK,bs]at h1;obtain⟨⟨⟨⟨⟨_,_⟩,h3⟩,h4⟩,h5⟩,_⟩:=h1;refine⟨?_,au,au,fun hk=>?_,fun ha=>?_⟩
 ·split at h5<;>omega
 ·rw [if_neg au]at h5
  exact h5
 ·rw [ha]at h3;revert h3
  decide
theorem smp_bl {n:aM} (h:DI n=true) (k:Nat) (hk:k<@ln (ah 7) n.Refs):Sb n.Bytes (gt 7 n.Refs k):=by
 obtain⟨h1,h2⟩:=smp_3 h;obtain⟨_,_,_,h4,_⟩:=Aq h;simp only [Gs,bs]at h2;have h5:=(congrArg (JL (qG n) vk.length) (Xp n.Refs hk)).symm.trans (List.all_eq_true.1 h2.1 k (List.mem_range.2 (Nat.lt_of_lt_of_eq hk (Nr n.Refs _).symm)));have e1:(vY n.Refs k).At=(gt 7 n.Refs k).At:=rfl;have e2:(vY n.Refs k).Kind=(gt 7 n.Refs k).Kind:=rfl;have e3:(gt 61 (qG n) (vY n.Refs k).gD.toNat)=(⟨n.gD,n.Kind,n.Align,n.Size,n.Bytes,false⟩:xO):=rfl;generalize vY n.Refs k=x at h5 e1 e2 e3;unfold JL at h5;rw [e3]at h5
 cases h6:decide (0<=x.Kind)&&decide (x.Kind<13)with
 |false=>rw [h6]at h5;cases h5
 |true =>
   rw [h6]at h5
   cases h7:!Jb (qG n) x.gD [(0:Int),(1:Int)] || !(decide (0<=x.Sym)&&decide (x.Sym<(vk.length:Nat)))||decide (x.Add < -2147483648)||decide (2147483648<=x.Add)with
   |true=>rw [h7]at h5;cases h5
   |false =>
     rw [h7]at h5
     cases h8:!(decide (0<=x.At)&&decide (x.At<n.Size))||decide (n.Size-kM x.Kind<x.At) || !decide (x.At.tmod (kM x.Kind)=0)with
     |true=>rw [h8]at h5;cases h5
     |false =>
       simp only [bs]at h6 h7 h8;have hi:=h7.1.1.1;unfold Jb at hi;rw [e3]at hi;simp only [bs]at hi
       have hk1:n.Kind=0\/n.Kind=1:=by
         rcases Classical.em (n.Kind=0\/n.Kind=1)with hq|hq
         ·exact hq
         ·have e:Ho [(0:Int),(1:Int)] n.Kind = -1:=Hl fun j hj=>by
            have:j=0\/j=1:=by
              have:j<2:=hj;omega
            rcases this with rfl|rfl
            ·exact Ud (fun e=>hq (.inl e))
            ·exact Ud (fun e=>hq (.inr e))
          exact absurd (Int.le_trans hi.2 (Int.le_of_eq e)) (by decide)
       have hw:=rlW (k:=x.Kind) h6.1 h6.2;have h9:=h4 hk1;rw [e1,e2]at *;refine⟨?_,?_,?_⟩<;>omega
def qH (N:Li 19) (I:Li 21) (s:ByteArray) (r:gX):Bool:=!BO N I r || !Ld s r
def F_EC:Fact E0:=bM 129 Proofs.Tryz.f129 rfl rfl rfl [.g zH,.p dH,.p uL] (fun pX dB dn jM dV dh jc _ _ aj ak _ _ _ _ _ _ _ _ _ _ _ _ _ _ _ nBytes _ _ _ _ _ _=>.ob (Sb nBytes (⟨pX,dB,⟨dn,jM,dV,dh⟩,jc⟩:gX)/\(nBytes.size:Int)<=1048576) (.b (qH aj ak nBytes (⟨pX,dB,⟨dn,jM,dV,dh⟩,jc⟩:gX)))) [F_Dw,F_Dq] [] (by
   repeat intro _
   refine fD rfl rfl fun hb hk=>?_
   repeat' first|(refine w_ ?_;first|(apply aP;focus (intro _<;>exact hb))|refine bO bK @hb ?_)|apply B_<;>intro h hc|apply I_;intro h
   all_goals conv=>whnf
   all_goals rfl)
def F_ED:Fact E0:=bM 133 Proofs.Tryz.f133 rfl rfl rfl [.g uK,.p dH] (fun qE PU lW lF vN eD iT gH fq _ _ aj ak _ _ _ _ _ _ _ _ _ _=>.ok (.b (!l8 aj ak (⟨qE,PU,lW,lF,vN,⟨eD,iT,gH,fq⟩⟩:bQ)))) [F_EF] [] kI
def I_Fx:je E0:=kC 210 Proofs.Tryz.f210 rfl rfl
def F_DT:Fact E0:=bM 128 Proofs.Tryz.f128 rfl rfl rfl [.l 7,.k 129 [] [.p dH,.p uL]] (fun l _ _ aj ak _ _ _ _ _ _ _ _ _ _ _ _ _ _ _ nBytes _ _ _ _ _ _=>.ob (∀ k:Nat,k<l.length->Sb nBytes (gt 7 l k)/\(nBytes.size:Int)<=1048576) (.b ((List.range l.length).any (fun k=>qH aj ak nBytes (gt 7 l k))))) [F_EC] [I_Fx] (by
   intro l _ _ aj ak _ _ _ _ _ _ _ _ _ _ _ _ _ _ _ nBytes
   repeat intro _
   refine fD rfl rfl fun hb hk=>?_
   simp only [know]at hk
   repeat' first|(refine w_ ?_;first|(apply aP;focus (exact hb _ au))|refine bO bK trivial ?_)|apply B_<;>intro h hc|apply I_;intro h
   all_goals conv=>whnf
   refine Or.inr (Or.inr ⟨[],[8],[],[],[0,1,7],[],?_⟩);conv=>whnf
   refine⟨fun(s:Int×Unit) (_:Unit)=>0<=s.1/\s.1<=l.length/\∀ j:Nat,j<s.1->(fun k=>qH aj ak nBytes (gt 7 l k)) j=false,fun(s:Int×Unit) (_:Unit)=>(l.length-s.1).toNat,?_⟩
   conv=>whnf
   refine eZ.mk ⟨au,au,fun j hj=>absurd hj au⟩ bA ?_
   rintro⟨(k:Int),_⟩ _ ⟨h0,h1,h2⟩
   try dsimp only at h0 h1 h2
   obtain⟨k,rfl⟩:=cO h0
   repeat' first|(refine w_ ?_;first|(apply aP;focus (exact hb _ au))|refine bO bK trivial ?_)|apply B_<;>intro h hc|apply I_;intro h
   all_goals conv=>whnf
   ·(try dsimp only);rw [KC (p:=fun k=>qH aj ak nBytes (gt 7 l k)) (k:=k) au (by first|assumption|exact h|exact hc|exact ntr hc)];simp
   ·(try dsimp only)
    refine⟨au,au,fun j hj=>?_⟩
    rcases Nat.lt_succ_iff_lt_or_eq.1 (show j<k+1 by omega)with hj|rfl
    ·exact h2 j au
    ·first|assumption|(rename_i hx;exact hx)|(rename_i hx _;exact Et hx)|(rename_i hx _ _;exact Et hx)|(rename_i hx _ _ _;exact Et hx)
   ·rw [KD (p:=fun k=>qH aj ak nBytes (gt 7 l k)) fun j hj=>h2 j au];rfl)
def I_Fu:je E0:=kC 215 Proofs.Tryz.f215 rfl rfl
def F_DR:Fact E0:=bM 132 Proofs.Tryz.f132 rfl rfl rfl [.l 15,.k 133 [] [.p dH]] (fun l _ _ aj ak _ _ _ _ _ _ _ _ _ _=>.ok (.b ((List.range l.length).any (fun k=>!l8 aj ak (gt 15 l k))))) [F_ED] [I_Fu] (by
   intro l _ _ aj ak
   repeat intro _
   refine dP rfl rfl fun hk=>?_
   simp only [know]at hk
   repeat' first|refine dM ?_|apply B_<;>intro h hc|apply I_;intro h
   all_goals conv=>whnf
   refine Or.inr (Or.inr ⟨[],[8],[],[],[0,1,7],[],?_⟩);conv=>whnf
   refine⟨fun(s:Int×Unit) (_:Unit)=>0<=s.1/\s.1<=l.length/\∀ j:Nat,j<s.1->(fun k=>!l8 aj ak (gt 15 l k)) j=false,fun(s:Int×Unit) (_:Unit)=>(l.length-s.1).toNat,?_⟩
   conv=>whnf
   refine eZ.mk ⟨au,au,fun j hj=>absurd hj au⟩ bA ?_
   rintro⟨(k:Int),_⟩ _ ⟨h0,h1,h2⟩
   try dsimp only at h0 h1 h2
   obtain⟨k,rfl⟩:=cO h0
   repeat' first|refine dM ?_|apply B_<;>intro h hc|apply I_;intro h
   all_goals conv=>whnf
   ·(try dsimp only);rw [KC (p:=fun k=>!l8 aj ak (gt 15 l k)) (k:=k) au (by first|assumption|exact h|exact hc|exact ntr hc)];simp
   ·(try dsimp only)
    refine⟨au,au,fun j hj=>?_⟩
    rcases Nat.lt_succ_iff_lt_or_eq.1 (show j<k+1 by omega)with hj|rfl
    ·exact h2 j au
    ·first|assumption|(rename_i hx;exact hx)|(rename_i hx _;exact Et hx)|(rename_i hx _ _;exact Et hx)|(rename_i hx _ _ _;exact Et hx)
   ·rw [KD (p:=fun k=>!l8 aj ak (gt 15 l k)) fun j hj=>h2 j au];rfl)
def I_GD:je E0:=kC 216 Proofs.Tryz.f216 rfl rfl
def F_DV:Fact E0:=bM 139 Proofs.Tryz.f139 rfl rfl rfl [.l 6,.k 137 [] [.p dH]] (fun l _ _ aj ak _ _ _ _ _ _ _ _ _ _=>.ok (.b ((List.range l.length).any (fun k=>!nR aj ak (gt 6 l k))))) [F_Dt] [I_GD] (by
   intro l _ _ aj ak
   repeat intro _
   refine dP rfl rfl fun hk=>?_
   simp only [know]at hk
   repeat' first|refine dM ?_|apply B_<;>intro h hc|apply I_;intro h
   all_goals conv=>whnf
   refine Or.inr (Or.inr ⟨[],[8],[],[],[0,1,7],[],?_⟩);conv=>whnf
   refine⟨fun(s:Int×Unit) (_:Unit)=>0<=s.1/\s.1<=l.length/\∀ j:Nat,j<s.1->(fun k=>!nR aj ak (gt 6 l k)) j=false,fun(s:Int×Unit) (_:Unit)=>(l.length-s.1).toNat,?_⟩
   conv=>whnf
   refine eZ.mk ⟨au,au,fun j hj=>absurd hj au⟩ bA ?_
   rintro⟨(k:Int),_⟩ _ ⟨h0,h1,h2⟩
   try dsimp only at h0 h1 h2
   obtain⟨k,rfl⟩:=cO h0
   repeat' first|refine dM ?_|apply B_<;>intro h hc|apply I_;intro h
   all_goals conv=>whnf
   ·(try dsimp only);rw [KC (p:=fun k=>!nR aj ak (gt 6 l k)) (k:=k) au (by first|assumption|exact h|exact hc|exact ntr hc)];simp
   ·(try dsimp only)
    refine⟨au,au,fun j hj=>?_⟩
    rcases Nat.lt_succ_iff_lt_or_eq.1 (show j<k+1 by omega)with hj|rfl
    ·exact h2 j au
    ·first|assumption|(rename_i hx;exact hx)|(rename_i hx _;exact Et hx)|(rename_i hx _ _;exact Et hx)|(rename_i hx _ _ _;exact Et hx)
   ·rw [KD (p:=fun k=>!nR aj ak (gt 6 l k)) fun j hj=>h2 j au];rfl)
def nQ (N:Li 19) (I:Li 21) (n:aM):Bool :=
 !DI n || !Lb n.Kind n.Size n.Marks||(List.range (@ln (ah 7) n.Refs)).any (fun k=>qH N I n.Bytes (gt 7 n.Refs k))||(List.range (@ln (ah 15) n.Vars)).any (fun k=>!l8 N I (gt 15 n.Vars k))
def F_EB:Fact E0:=bM 124 Proofs.Tryz.f124 rfl rfl rfl [.g uL,.p dH] (fun uO uN jW jR iU nBytes iy dN dR bI dF cB _ _ aj ak _ _ _ _ _ _ _ _ _ _=>.ok (.b (nQ aj ak (⟨uO,uN,jW,jR,iU,nBytes,iy,dN,dR,bI,dF,cB⟩:aM)))) [F_Ee,F_Bj,F_ET,F_DT,F_DR] [] (by
   intro uO uN jW jR iU nBytes iy dN dR bI dF cB
   repeat intro _
   refine dP rfl rfl fun hk=>?_
   repeat' first|(refine w_ ?_;first|(apply aP;focus (first|exact Nat.zero_le _|(intro hq<;>(try (conv at hq=>whnf))<;>simp only [bs]at hq<;>exact fun k hk=>⟨smp_bl (n:=(⟨uO,uN,jW,jR,iU,nBytes,iy,dN,dR,bI,dF,cB⟩:aM)) hq.1 k hk,(Aq (n:=(⟨uO,uN,jW,jR,iU,nBytes,iy,dN,dR,bI,dF,cB⟩:aM)) hq.1).1⟩)))|refine bO bK trivial ?_)|apply B_<;>intro h hc|apply I_;intro h
   all_goals conv=>whnf
   all_goals rfl)
def I_Fv:je E0:=kC 198 Proofs.Tryz.f198 rfl rfl
def F_DS:Fact E0:=bM 123 Proofs.Tryz.f123 rfl rfl rfl [.l 19,.k 124 [] [.p dH]] (fun l _ _ aj ak _ _ _ _ _ _ _ _ _ _=>.ok (.b ((List.range l.length).any (fun k=>nQ aj ak (gt 19 l k))))) [F_EB] [I_Fv] (by
   intro l _ _ aj ak
   repeat intro _
   refine dP rfl rfl fun hk=>?_
   simp only [know]at hk
   repeat' first|refine dM ?_|apply B_<;>intro h hc|apply I_;intro h
   all_goals conv=>whnf
   refine Or.inr (Or.inr ⟨[],[8],[],[],[0,1,7],[],?_⟩);conv=>whnf
   refine⟨fun(s:Int×Unit) (_:Unit)=>0<=s.1/\s.1<=l.length/\∀ j:Nat,j<s.1->(fun k=>nQ aj ak (gt 19 l k)) j=false,fun(s:Int×Unit) (_:Unit)=>(l.length-s.1).toNat,?_⟩
   conv=>whnf
   refine eZ.mk ⟨au,au,fun j hj=>absurd hj au⟩ bA ?_
   rintro⟨(k:Int),_⟩ _ ⟨h0,h1,h2⟩
   try dsimp only at h0 h1 h2
   obtain⟨k,rfl⟩:=cO h0
   repeat' first|refine dM ?_|apply B_<;>intro h hc|apply I_;intro h
   all_goals conv=>whnf
   ·(try dsimp only);rw [KC (p:=fun k=>nQ aj ak (gt 19 l k)) (k:=k) au (by first|assumption|exact h|exact hc|exact ntr hc)];simp
   ·(try dsimp only)
    refine⟨au,au,fun j hj=>?_⟩
    rcases Nat.lt_succ_iff_lt_or_eq.1 (show j<k+1 by omega)with hj|rfl
    ·exact h2 j au
    ·first|assumption|(rename_i hx;exact hx)|(rename_i hx _;exact Et hx)|(rename_i hx _ _;exact Et hx)|(rename_i hx _ _ _;exact Et hx)
   ·rw [KD (p:=fun k=>nQ aj ak (gt 19 l k)) fun j hj=>h2 j au];rfl)
def uq (N:Li 19) (I:Li 21):Bool:=!((List.range N.length).any fun k=>nQ N I (gt 19 N k))
def Ak (N:Li 19) (I:Li 21) (lib:Bool) (A B:Li 6) (e:bE):Bool :=
 bif ((List.range A.length).any fun k=>!nR N I (gt 6 A k))||((List.range B.length).any fun k=>!nR N I (gt 6 B k))then false
 else bif lib then decide (e.Kind=2)&&(decide (e.N=0)&&(decide (e.Off=0)&&(decide (e.Size=0)&&true)))else nR N I e
def F_EA:Fact E0:=bM 36 Proofs.Tryz.f36 rfl rfl rfl [.g dH] (fun _ _ aj ak _ _ _ _ _ _ _ _ _ _=>.ok (.b (uq aj ak))) [F_DS] [] kI
def F_Ds:Fact E0:=bM 39 Proofs.Tryz.f39 rfl rfl rfl [.g dH] (fun _ eO aj ak _ aT aS _ aG aU aL aF _ _=>.ok (.b (Ak aj ak eO aT aS ⟨aG,aU,aL,aF⟩))) [F_DV,F_Dr] [] kI
abbrev prK (a b:ByteArray):ah 60:=((a,b):ByteArray×ByteArray)
def Xu (N:Li 19) (k:Nat) (m:List (ah 60×ah 2)) (next:List (ah 60×ah 2)->Bool):Bool :=
 bif decide ((gt 19 N k).Kind<0)||decide (5<=(gt 19 N k).Kind)||(decide (0<(k:Int))&&decide ((gt 19 N k).Kind<(gt 19 N ((k:Int)-1).toNat).Kind))||(jA m (prK (gt 19 N k).Obj (gt 19 N k).gD)).getD false||(!jK (gt 19 N k).Obj&&(!decide ((gt 19 N k).Obj=⟨#[]⟩) || !decide ((gt 19 N k).Kind=2)))then false
 else next (fV m (prK (gt 19 N k).Obj (gt 19 N k).gD) true)
def Xt (_:List (ah 60×ah 2)):Bool:=true
def PW (N:Li 19):Bool:=lp (Xu N) Xt N.length 0 []
def F_Dz:Fact E0:=bM 35 Proofs.Tryz.f35 rfl rfl rfl [.g dH] (fun _ _ aj _ _ _ _ _ _ _ _ _ _ _=>.ok (.b (PW aj))) [WA] [] (by
   intro _ _ aj
   repeat intro _
   refine dP rfl rfl fun hk=>?_
   repeat' first|refine dM ?_|apply B_<;>intro h hc|apply I_;intro h
   all_goals conv=>whnf
   refine Or.inr (Or.inr ⟨[],[12],[],[1],[1,3,10,11],[],?_⟩);conv=>whnf
   refine⟨fun(s:Int×Unit) (t:List (ah 60×ah 2)×Unit)=>0<=s.1/\s.1<=aj.length/\PW aj=lp (Xu aj) Xt (aj.length-s.1.toNat) s.1.toNat (t.1),fun(s:Int×Unit) (_:List (ah 60×ah 2)×Unit)=>(aj.length-s.1).toNat,?_⟩
   conv=>whnf
   refine eZ.mk ⟨bg,bg,rfl⟩ bA ?_
   rintro⟨(k:Int),_⟩ ⟨(y0:List (ah 60×ah 2)),_⟩ ⟨h0,h1,hS⟩
   try dsimp only at h0 h1 hS
   obtain⟨k,rfl⟩:=cO (show(0:Int)<=k by omega)
   rw [bP]at hS
   repeat' first|refine dM ?_|apply B_<;>intro h hc|apply I_;intro h
   all_goals conv=>whnf
   all_goals exact l5)
def Xq (N:Li 19) (I:Li 21) (x:jd):Bool :=
 !jK x.Name||(!decide (x.Version=⟨#[]⟩)&&!jK x.Version)||(decide (x.Version=⟨#[]⟩)&&!x.Main) || !BP N I ⟨0,x.Node,x.Off,x.Size⟩ || !decide (x.Kind=BN (gt 19 N x.Node.toNat).Kind)
def Xr (N:Li 19) (I:Li 21) (O:Li 23) (k:Nat) (_:Unit) (next:Unit->Bool):Bool :=
 bif Xq N I (gt 23 O k)then false
 else bif decide (0<(k:Int))then(bif !(wB (gt 23 O ((k:Int)-1).toNat).Name (gt 23 O k).Name||decide ((gt 23 O ((k:Int)-1).toNat).Name=(gt 23 O k).Name))||(decide ((gt 23 O ((k:Int)-1).toNat).Name=(gt 23 O k).Name)&&!wB (gt 23 O ((k:Int)-1).toNat).Version (gt 23 O k).Version)then false else next ())else next ()
def unOfF (_:Unit):Bool:=true
def vZ (N:Li 19) (I:Li 21) (O:Li 23):Bool:=lp (Xr N I O) unOfF O.length 0 ()
def F_EE:Fact E0:=bM 38 Proofs.Tryz.f38 rfl rfl rfl [.g dH] (fun _ _ aj ak aJ _ _ _ _ _ _ _ _ _=>.ok (.b (vZ aj ak aJ))) [WA,F_Dv,F_EM] [] (by
   intro _ _ aj ak aJ
   repeat intro _
   refine dP rfl rfl fun hk=>?_
   repeat' first|(refine w_ ?_;first|(apply aP;focus (intro hq<;>(try (conv at hq=>whnf))<;>simp only [bs]at hq<;>exact sD (t:=⟨0,_,_,_⟩) hq.2 rfl))|refine bO bK trivial ?_)|apply B_<;>intro h hc|apply I_;intro h
   all_goals conv=>whnf
   refine Or.inr (Or.inr ⟨[],[10],[],[],[1,8,9],[],?_⟩);conv=>whnf
   refine⟨fun(s:Int×Unit) (t:Unit)=>0<=s.1/\s.1<=aJ.length/\vZ aj ak aJ=lp (Xr aj ak aJ) unOfF (aJ.length-s.1.toNat) s.1.toNat (()),fun(s:Int×Unit) (_:Unit)=>(aJ.length-s.1).toNat,?_⟩
   conv=>whnf
   refine eZ.mk ⟨bg,bg,rfl⟩ bA ?_
   rintro⟨(k:Int),_⟩ _ ⟨h0,h1,hS⟩
   try dsimp only at h0 h1 hS
   obtain⟨k,rfl⟩:=cO (show(0:Int)<=k by omega)
   rw [bP]at hS
   repeat' first|(refine w_ ?_;first|(apply aP;focus (intro hq<;>(try (conv at hq=>whnf))<;>simp only [bs]at hq<;>exact sD (t:=⟨0,_,_,_⟩) hq.2 rfl))|refine bO bK trivial ?_)|apply B_<;>intro h hc|apply I_;intro h
   all_goals conv=>whnf
   all_goals exact l5)
def unChR (n:aM) (c:dZ):Bool:=AO ⟨#[111]⟩ (qG n) vk (j6 n.Refs (@ln (ah 7) n.Refs)) [] [] n.Lines n.dK (qF n.Vars (@ln (ah 15) n.Vars)) n.gy ([(⟨0,c.From,c.kS,-1⟩:oP)]:Li 71)
def Xw (N:Li 19) (I:Li 21) (O:Li 31) (k:Nat) (_:Unit) (next:Unit->Bool):Bool :=
 bif decide ((gt 31 O k).Node<0)||decide ((N.length:Int)<=(gt 31 O k).Node)||(!(decide ((gt 31 O k).Code.Kind=2)&&(decide ((gt 31 O k).Code.N=0)&&(decide ((gt 31 O k).Code.Off=0)&&(decide ((gt 31 O k).Code.Size=0)&&true))))&&!nR N I (gt 31 O k).Code)then false
 else bif !unChR (gt 19 N (gt 31 O k).Node.toNat) (gt 31 O k)then false
 else bif decide (0<(k:Int))then(bif decide ((gt 31 O k).Node<(gt 31 O ((k:Int)-1).toNat).Node)||(decide ((gt 31 O ((k:Int)-1).toNat).Node=(gt 31 O k).Node)&&!wB (gt 31 O ((k:Int)-1).toNat).From (gt 31 O k).From)then false else next ())else next ()
def unChF (_:Unit):Bool:=true
def sQ (N:Li 19) (I:Li 21) (O:Li 31):Bool:=lp (Xw N I O) unChF O.length 0 ()
def F_Du:Fact E0:=bM 40 Proofs.Tryz.f40 rfl rfl rfl [.g dH] (fun _ _ aj ak _ _ _ _ _ _ _ _ _ aD=>.ok (.b (sQ aj ak aD))) [F_Dr,F_Ee,F_Bj] [] (by
   intro _ _ aj ak _ _ _ _ _ _ _ _ _ aD;refine dP rfl rfl fun hk=>?_
   repeat' first|(refine w_ ?_;first|(apply aP;focus (exact Nat.zero_le _))|refine bO bK trivial ?_)|apply B_<;>intro h hc|apply I_;intro h
   all_goals conv=>whnf
   refine Or.inr (Or.inr ⟨[],[11],[],[],[1,9,10],[],?_⟩);conv=>whnf
   refine⟨fun(s:Int×Unit) (t:Unit)=>0<=s.1/\s.1<=aD.length/\sQ aj ak aD=lp (Xw aj ak aD) unChF (aD.length-s.1.toNat) s.1.toNat (()),fun(s:Int×Unit) (_:Unit)=>(aD.length-s.1).toNat,?_⟩
   conv=>whnf
   refine eZ.mk ⟨bg,bg,rfl⟩ bA ?_
   rintro⟨(k:Int),_⟩ _ ⟨h0,h1,hS⟩
   try dsimp only at h0 h1 hS
   obtain⟨k,rfl⟩:=cO (show(0:Int)<=k by omega)
   rw [bP]at hS
   repeat' first|(refine w_ ?_;first|(apply aP;focus (exact Nat.zero_le _))|refine bO bK trivial ?_)|apply B_<;>intro h hc|apply I_;intro h
   all_goals conv=>whnf
   all_goals exact l5)
def Xn (R:Li 7) (k:Nat) (m:List (ah 0×ah 2)) (next:List (ah 0×ah 2)->List (ah 0×ah 2)):List (ah 0×ah 2):=bif decide ((gt 7 R k).To.Kind=1)then next (fV m (gt 7 R k).To.N true)else next m
def R7 (m:List (ah 0×ah 2)):List (ah 0×ah 2):=m
def unUsI (R:Li 7) (m:List (ah 0×ah 2)):List (ah 0×ah 2):=lp (Xn R) R7 (@ln (ah 7) R) 0 m
def Xm (N:Li 19) (k:Nat) (m:List (ah 0×ah 2)) (next:List (ah 0×ah 2)->List (ah 0×ah 2)):List (ah 0×ah 2):=next (unUsI (gt 19 N k).Refs m)
def Xl (N:Li 19):List (ah 0×ah 2):=lp (Xm N) R7 N.length 0 []
def R9 (I:Li 21) (us:List (ah 0×ah 2)) (k:Nat) (m:List (ah 60×ah 2)) (next:List (ah 60×ah 2)->Bool):Bool :=
 bif !jK (gt 21 I k).Name||(!decide ((gt 21 I k).Version=⟨#[]⟩)&&!jK (gt 21 I k).Version)||decide ((gt 21 I k).Kind<0)||decide (3<=(gt 21 I k).Kind)||(jA m (prK (gt 21 I k).Name (gt 21 I k).Version)).getD false || !(jA us (k:Int)).getD false||((gt 21 I k).Weak&&(gt 21 I k).Own)then false
 else next (fV m (prK (gt 21 I k).Name (gt 21 I k).Version) true)
def unImF (_:List (ah 60×ah 2)):Bool:=true
def xX (N:Li 19) (I:Li 21):Bool:=lp (R9 I (Xl N)) unImF I.length 0 []
def F_Dy:Fact E0:=bM 37 Proofs.Tryz.f37 rfl rfl rfl [.g dH] (fun _ _ aj ak _ _ _ _ _ _ _ _ _ _=>.ok (.b (xX aj ak))) [WA] [] (by
   intro _ _ aj ak
   repeat intro _
   refine dP rfl rfl fun hk=>?_
   generalize hz:xX aj ak=rr;unfold xX at hz;generalize hy:Xl aj=ss at hz
   repeat' first|refine dM ?_|apply B_<;>intro h hc|apply I_;intro h
   all_goals conv=>whnf
   refine Or.inr (Or.inr ⟨[],[17],[],[1],[1,3,15,16,58,59,60,61,62,63,64,65,66,69,70,71,74,75,76,79,80,81,84,85,86,87,90,91,92,93,94,95],[],?_⟩);conv=>whnf
   refine⟨fun(s:Int×Unit) (t:List (ah 0×ah 2)×Unit)=>0<=s.1/\s.1<=aj.length/\ss=lp (Xm aj) R7 (aj.length-s.1.toNat) s.1.toNat t.1,fun(s:Int×Unit) _=>(aj.length-s.1).toNat,?_⟩
   conv=>whnf
   refine eZ.mk ⟨bg,bg,hy.symm⟩ bA ?_
   rintro⟨(k:Int),_⟩ ⟨(o:List (ah 0×ah 2)),_⟩ ⟨h0,h1,hS⟩
   try dsimp only at h0 h1 hS
   obtain⟨k,rfl⟩:=cO h0;rw [bP]at hS
   repeat' first|refine dM ?_|apply B_<;>intro h hc|apply I_;intro h
   all_goals conv=>whnf
   ·refine Or.inr (Or.inr ⟨[],[24],[],[1],[1,3,15,16,17,22,23,58,59,60,61,62,63,64,65,66,69,70,71,74,75,76,79,80,81,84,85,86,87,90,91,92,93,94,95],[],?_⟩);conv=>whnf
    refine⟨fun(s:Int×Unit) (t:List (ah 0×ah 2)×Unit)=>0<=s.1/\s.1<=@ln (ah 7) (gt 19 aj k).Refs/\unUsI (gt 19 aj k).Refs o=lp (Xn (gt 19 aj k).Refs) R7 (@ln (ah 7) (gt 19 aj k).Refs-s.1.toNat) s.1.toNat t.1,fun(s:Int×Unit) _=>(@ln (ah 7) (gt 19 aj k).Refs-s.1).toNat,?_⟩
    conv=>whnf
    refine eZ.mk ⟨bg,bg,rfl⟩ bA ?_
    rintro⟨(j:Int),_⟩ ⟨(p:List (ah 0×ah 2)),_⟩ ⟨g0,g1,gS⟩
    try dsimp only at g0 g1 gS
    obtain⟨j,rfl⟩:=cO g0;rw [bP]at gS
    repeat' first|refine dM ?_|apply B_<;>intro h hc|apply I_;intro h
    all_goals conv=>whnf
    all_goals first
     |((try dsimp only);refine⟨au,au,gS.trans ((cK au).trans ?_)⟩;rw [show((j:Int)+1).toNat=j+1 by omega];symm;unfold Xn;(try dsimp only);all_goals exact lI)
     |(have gI:=gS.trans (iZ au);(try dsimp only);refine⟨au,au,hS.trans ((cK au).trans ?_)⟩;rw [show((k:Int)+1).toNat=k+1 by omega];unfold Xm;rw [gI];rfl)
   have es:ss=o:=hS.trans (iZ au)
   subst es;refine Or.inr (Or.inr ⟨[],[43],[],[2],[3,8,41,42],[],?_⟩);conv=>whnf
   refine⟨fun(s:Int×Unit) (t:List (ah 60×ah 2)×Unit)=>0<=s.1/\s.1<=ak.length/\rr=lp (R9 ak ss) unImF (ak.length-s.1.toNat) s.1.toNat t.1,fun(s:Int×Unit) _=>(ak.length-s.1).toNat,?_⟩
   conv=>whnf
   refine eZ.mk ⟨bg,bg,hz.symm⟩ bA ?_
   rintro⟨(j:Int),_⟩ ⟨(p:List (ah 60×ah 2)),_⟩ ⟨g0,g1,gS⟩
   try dsimp only at g0 g1 gS
   obtain⟨j,rfl⟩:=cO g0;rw [bP]at gS
   repeat' first|refine dM ?_|apply B_<;>intro h hc|apply I_;intro h
   all_goals conv=>whnf
   all_goals first
    |((try dsimp only);refine⟨au,au,gS.trans ((cK au).trans ?_)⟩;rw [show((j:Int)+1).toNat=j+1 by omega];symm;unfold R9;(try dsimp only);all_goals exact lI)
    |((try dsimp only);refine Eq.trans ?_ (gS.trans (cK au)).symm;unfold R9;(try dsimp only);all_goals exact lI)
    |((try dsimp only);exact(gS.trans (iZ au)).symm))
end
end Go.SX
