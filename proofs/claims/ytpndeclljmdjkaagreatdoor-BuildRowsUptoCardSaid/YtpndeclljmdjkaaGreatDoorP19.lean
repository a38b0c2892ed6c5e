/- A part of the proof (texts B10). -/
import Derived.Test.YtpndeclljmdjkaaGreatDoorP10
import Derived.Test.YtpndeclljmdjkaaGreatDoorP17
set_option linter.all false
set_option maxRecDepth 100000
namespace Go.SX
open Go.XK Go.RowKit
set_option maxHeartbeats 40000000
noncomputable section
def SI (x:yJ):ah 60:=(x.Name,x.Version)
def F_Ci:Fact E0:=bM 279 Proofs.Tryz.f279 rfl rfl rfl [.g JD] (fun FL FK _ _ _ _ _ _ _ _=>.ok (.av 1 2 [(FL:ByteArray),(FK:ByteArray)])) [] [] kI
def F_Bm:Fact E0:=bM 278 Proofs.Tryz.f278 rfl rfl rfl [.l 63,.k 279 [] []] (fun l=>.ok (.b (dst 60 (fun k=>SI (gt 63 l k)) l.length))) [F_Ci] [] (by
   intro l;refine dP rfl rfl fun hk=>?_
   simp only [know]at hk
   repeat' first|refine dM ?_|apply B_<;>intro h hc|apply I_;intro h
   all_goals conv=>whnf
   refine Or.inr (Or.inr ⟨[],[11],[],[0],[1,5,9,10],[],?_⟩);conv=>whnf
   refine⟨fun(s:Int×Unit) (t:List (ah 60×ah 2)×Unit)=>0<=s.1/\s.1<=l.length/\dst 60 (fun k=>SI (gt 63 l k)) l.length=lp (dstB 60 (fun k=>SI (gt 63 l k))) (dstF 60) (l.length-s.1.toNat) s.1.toNat (t.1),fun(s:Int×Unit) (_:List (ah 60×ah 2)×Unit)=>(l.length-s.1).toNat,?_⟩
   conv=>whnf
   refine eZ.mk ⟨bg,bg,rfl⟩ bA ?_
   rintro⟨(k:Int),_⟩ ⟨(y0:List (ah 60×ah 2)),_⟩ ⟨h0,h1,hS⟩
   try dsimp only at h0 h1 hS
   obtain⟨k,rfl⟩:=Int.eq_ofNat_of_zero_le (show(0:Int)<=k by omega)
   rw [Int.toNat_natCast]at hS
   repeat' first|refine dM ?_|apply B_<;>intro h hc|apply I_;intro h
   all_goals conv=>whnf
   all_goals exact l5)
def Gq (S:Li 61):Bool:=decide (S.length<=(1024:Int))&&((List.range S.length).all fun k=>Gr (gt 61 S k))&&dst 1 (fun k=>(gt 61 S k).Name) S.length
def Qs (S:Li 61) (Y:Li 63):Bool:=decide (Y.length<=(4096:Int))&&((List.range Y.length).all fun k=>SF S (gt 63 Y k))&&dst 60 (fun k=>SI (gt 63 Y k)) Y.length
def Gs (S:Li 61) (n:Nat) (R:Li 65):Bool:=((List.range R.length).all fun k=>JL S n (gt 65 R k))&&vB (fun k=>Gt (gt 65 R ((k:Int)-1).toNat) (gt 65 R k)) R.length
def SK (Y:Li 63) (I:Li 69):Bool:=(List.range I.length).all fun k=>Qv Y (gt 69 I k)
def SH (S:Li 61) (L:Li 11):Bool:=((List.range L.length).all fun k=>Qu S (gt 11 L k))&&vB (fun k=>AP (gt 11 L ((k:Int)-1).toNat) (gt 11 L k)) L.length
def YE (S:Li 61) (Y:Li 63) (L:Li 46):Bool:=((List.range L.length).all fun k=>YF S Y (gt 46 L k))&&vB (fun k=>Gp (gt 46 L ((k:Int)-1).toNat) (gt 46 L k)) L.length
def YJ (S:Li 61) (L:Li 17):Bool:=((List.range L.length).all fun k=>YK S (gt 17 L k))&&vB (fun k=>Gw (gt 17 L ((k:Int)-1).toNat) (gt 17 L k)) L.length
def Qw (S:Li 61) (Y:Li 63) (x:oP):Bool :=
 bif !Jb S x.gD [(1:Int)] || !decide ((x.From.size:Int)=32) || !decide (x.Code = -1)&&!LX Y x.Code 0 then false
 else((List.range x.kS.length).all fun k=>obPc (gt 61 S x.gD.toNat).Size (gt 29 x.kS k))&&vB (fun k=>NT (gt 29 x.kS ((k:Int)-1).toNat) (gt 29 x.kS k)) x.kS.length
def obCvs (S:Li 61) (Y:Li 63) (L:Li 71):Bool:=((List.range L.length).all fun k=>Qw S Y (gt 71 L k))&&vB (fun k=>NU (gt 71 L ((k:Int)-1).toNat) (gt 71 L k)) L.length
def F_Cb:Fact E0:=bM 199 Proofs.Tryz.f199 rfl rfl rfl [.g bL] (fun _ dw _ _ _ _ _ _ _ _ _=>.ok (.b (Gq dw))) [F_Bv,F_Bl] [] kI
def F_Cg:Fact E0:=bM 200 Proofs.Tryz.f200 rfl rfl rfl [.g bL] (fun _ dw iJ _ _ _ _ _ _ _ _=>.ok (.b (Qs dw iJ))) [F_Bw,F_Bm] [] kI
def F_CY:Fact E0:=bM 201 Proofs.Tryz.f201 rfl rfl rfl [.g bL] (fun _ dw iJ YM _ _ _ _ _ _ _=>.ok (.b (Gs dw iJ.length YM))) [F_Bu,F_Cr] [] kI
def F_CQ:Fact E0:=bM 203 Proofs.Tryz.f203 rfl rfl rfl [.g bL] (fun _ _ iJ _ _ Qy _ _ _ _ _=>.ok (.b (SK iJ Qy))) [F_Bq] [] kI
def F_CV:Fact E0:=bM 204 Proofs.Tryz.f204 rfl rfl rfl [.g bL] (fun _ dw _ _ _ _ Qx _ _ _ _=>.ok (.b (SH dw Qx))) [F_Bs,F_Cp] [] kI
def F_Cj:Fact E0:=bM 206 Proofs.Tryz.f206 rfl rfl rfl [.g bL] (fun _ dw iJ _ _ _ _ _ YL _ _=>.ok (.b (YE dw iJ YL))) [F_Bx,F_Cs] [] kI
def F_CI:Fact E0:=bM 207 Proofs.Tryz.f207 rfl rfl rfl [.g bL] (fun _ dw _ _ _ _ _ _ _ L6 _=>.ok (.b (YJ dw L6))) [F_Bp,F_Co] [] kI
def F_CD:Fact E0:=bM 313 Proofs.Tryz.f313 rfl rfl rfl [.g zI,.p bL] (fun jQ gV KR WU _ dw iJ _ _ _ _ _ _ _ _=>.ok (.b (Qw dw iJ (⟨jQ,gV,KR,WU⟩:oP)))) [F_CU,F_Cf,F_Bt,F_Cq] [] (by
   repeat intro _
   refine dP rfl rfl fun hk=>?_
   repeat' first|(refine w_ ?_;first|(apply aP;focus (first|exact wM h.1.1|exact wM h.1|exact wM h))|refine bO bK trivial ?_)|apply B_<;>intro h hc|apply I_;intro h
   all_goals conv=>whnf
   all_goals (unfold Qw;(repeat (first|exact rfl|refine gW (by assumption) ?_|refine gB (by assumption) ?_|refine jY (by first|assumption|omega) ?_|refine jZ (by first|assumption|omega) ?_))))
def I_Fd:je E0:=kC 383 Proofs.Tryz.f383 rfl rfl
def I_Fp:je E0:=kC 414 Proofs.Tryz.f414 rfl rfl
def I_FP:je E0:=kC 384 Proofs.Tryz.f384 rfl rfl
def F_Bo:Fact E0:=bM 320 Proofs.Tryz.f320 rfl rfl rfl [.l 71,.k 313 [] [.p bL]] (fun l _ dw iJ _ _ _ _ _ _ _ _=>.ok (.b ((List.range l.length).all (fun k=>Qw dw iJ (gt 71 l k))))) [F_CD] [I_Fd,I_Fp,I_FP] (by
   intro l _ dw iJ
   repeat intro _
   refine dP rfl rfl fun hk=>?_
   simp only [know]at hk
   repeat' first|refine dM ?_|apply B_<;>intro h hc|apply I_;intro h
   all_goals conv=>whnf
   refine Or.inr (Or.inr ⟨[],[8],[],[],[0,1,7],[],?_⟩);conv=>whnf
   refine⟨fun(s:Int×Unit) (_:Unit)=>0<=s.1/\s.1<=l.length/\∀ j:Nat,j<s.1->(fun k=>Qw dw iJ (gt 71 l k)) j=true,fun(s:Int×Unit) (_:Unit)=>(l.length-s.1).toNat,?_⟩
   conv=>whnf
   refine eZ.mk ⟨au,au,fun j hj=>absurd hj au⟩ bA ?_
   rintro⟨(k:Int),_⟩ _ ⟨h0,h1,h2⟩
   try dsimp only at h0 h1 h2
   obtain⟨k,rfl⟩:=Int.eq_ofNat_of_zero_le h0
   repeat' first|refine dM ?_|apply B_<;>intro h hc|apply I_;intro h
   all_goals conv=>whnf
   ·(try dsimp only);rw [Pb (p:=fun k=>Qw dw iJ (gt 71 l k)) (k:=k) au (by first|assumption|exact h|exact hc|exact ntr hc)];simp
   ·(try dsimp only)
    refine⟨au,au,fun j hj=>?_⟩
    rcases Nat.lt_succ_iff_lt_or_eq.1 (show j<k+1 by omega)with hj|rfl
    ·exact h2 j au
    ·first|assumption|(rename_i hx;exact hx)|(rename_i hx _;exact Et hx)|(rename_i hx _ _;exact Et hx)|(rename_i hx _ _ _;exact Et hx)
   ·rw [O9 (p:=fun k=>Qw dw iJ (gt 71 l k)) fun j hj=>h2 j au];rfl)
def F_CC:Fact E0:=bM 208 Proofs.Tryz.f208 rfl rfl rfl [.g bL] (fun _ dw iJ _ _ _ _ _ _ _ CJ=>.ok (.b (obCvs dw iJ CJ))) [F_Bo,F_Cn] [] kI
end
end Go.SX
