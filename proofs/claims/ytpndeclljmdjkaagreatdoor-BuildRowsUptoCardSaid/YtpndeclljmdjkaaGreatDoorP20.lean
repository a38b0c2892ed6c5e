/- A part of the proof (texts B11, B12). -/
import Derived.Test.YtpndeclljmdjkaaGreatDoorP10
import Derived.Test.YtpndeclljmdjkaaGreatDoorP17
set_option linter.all false
set_option maxRecDepth 100000
namespace Go.SX
open List renaming length -> ln
open Go.XK Go.RowKit
set_option maxHeartbeats 40000000
def gL (g:ah 67):Nat:=(Rv.vP g).length
def gS (G:Li 67) (k:Nat):Nat:=((G.drop k).map gL).sum
theorem gS_s {G:Li 67} {k:Nat} (h:k<G.length):gS G k=(gt 67 G k).vP.length+gS G (k+1):=by
 show gS G k=gL (gt 67 G k)+gS G (k+1);unfold gS
 have e:gt 67 G k=G[k]:=by
   show G.getD k _=_;rw [List.getD_eq_getElem?_getD,List.getElem?_eq_getElem h];rfl
 rw [List.drop_eq_getElem_cons h,List.map_cons,List.sum_cons,<- e]
def grB (n:Nat) (G:Li 67) (k:Nat) (a:Li 0) (next:Li 0->Bool):Bool :=
 bif !jK (gt 67 G k).Name||decide (((gt 67 G k).vP.length:Int)=0) || !((List.range (gt 67 G k).vP.length).all fun j=>obIn n (gt 0 (gt 67 G k).vP j)) || !vB (fun j=>ltI (gt 0 (gt 67 G k).vP ((j:Int)-1).toNat) (gt 0 (gt 67 G k).vP j)) (gt 67 G k).vP.length then false
 else next (@HAppend.hAppend (Li 0) (Li 0) _ _ a (gt 67 G k).vP)
def grF (G:Li 67) (a:Li 0):Bool:=dst 1 (fun k=>(gt 67 G k).Name) G.length&&dst 0 (fun k=>gt 0 a k) a.length
def YH (n:Nat) (G:Li 67):Bool:=lp (grB n G) (grF G) G.length 0 []
noncomputable def F_CL:Fact E0:=bM 202 Proofs.Tryz.f202 rfl rfl rfl [.g bL] (fun _ dw _ _ gq _ _ _ _ _ _=>.ob (gS gq 0<=1099511627776) (.b (YH dw.length gq))) [WC,F_By,F_Ct,F_Bk,F_Bn] [] (by
   intro _ dw _ _ gq
   repeat intro _
   refine fD rfl rfl fun hb hk=>?_
   repeat' first|(refine w_ ?_;first|(apply aP;focus (show(@ln (ah 0) y0+List.length (α:=Int) (gt 67 gq k).vP)*8<=140737488355328<;>omega))|refine bO bK trivial ?_)|apply B_<;>intro h hc|apply I_;intro h
   all_goals conv=>whnf
   refine Or.inr (Or.inr ⟨[(3,3,0),(1,0,0)],[3,10,19,20,21,22,25,26,27,28,29,32,33,34,35],[],[0],[1,8,9,47,48],[],?_⟩);conv=>whnf
   refine⟨fun(s:Unit×Int×Unit) (t:Li 0×Unit×Unit)=>0<=s.2.1/\s.2.1<=gq.length/\(t.1).length+gS gq s.2.1.toNat<=1099511627776/\YH dw.length gq=lp (grB dw.length gq) (grF gq) (gq.length-s.2.1.toNat) s.2.1.toNat (t.1),fun(s:Unit×Int×Unit) (_:Li 0×Unit×Unit)=>(gq.length-s.2.1).toNat,?_⟩
   conv=>whnf
   refine eZ.mk ⟨bg,bg,by simpa using hb,rfl⟩ bA ?_
   rintro⟨x0,(k:Int),_⟩ ⟨(y0:Li 0),(y1:Unit),_⟩ ⟨h0,h1,hF,hS⟩
   try dsimp only at h0 h1 hF hS
   obtain⟨k,rfl⟩:=Int.eq_ofNat_of_zero_le (show(0:Int)<=k by omega)
   rw [Int.toNat_natCast]at hS
   try simp only [Int.toNat_natCast]at hF
   have hg:=gS_s (G:=gq) (k:=k);have hg2:k<gq.length->gS gq k=@ln (ah 0) (gt 67 gq k).vP+gS gq (k+1):=hg
   repeat' first|(refine w_ ?_;first|(apply aP;focus (show(@ln (ah 0) y0+List.length (α:=Int) (gt 67 gq k).vP)*8<=140737488355328<;>omega))|refine bO bK trivial ?_)|apply B_<;>intro h hc|apply I_;intro h
   all_goals conv=>whnf
   all_goals first
    |((try dsimp only);refine⟨au,au,Nat.le_trans (Nat.le_of_eq (congrArg (fun n=>n+gS gq (k+1)) (@List.length_append (ah 0) y0 (gt 67 gq k).vP))) (show @ln (ah 0) y0+@ln (ah 0) (gt 67 gq k).vP+gS gq (k+1)<=1099511627776 by omega),hS.trans ((cK au).trans ?_)⟩;rw [show((k:Int)+1).toNat=k+1 by omega];symm;unfold grB;(try dsimp only);all_goals exact lI)
    |((try dsimp only);refine Eq.trans ?_ (hS.trans (cK au)).symm;unfold grB;(try dsimp only);all_goals exact lI)
    |((try dsimp only);refine Eq.trans ?_ (hS.trans (iZ au)).symm;unfold grF;(try dsimp only);all_goals exact lI))
theorem len1 {c:Nat} (p:Li c) (x:ah c):((p++[x]).length:Int)=p.length+1:=by simp
def Yw (x:dW) (o:Li 13):Bool:=decide (0<(o.length:Int))&&(!decide ((gt 13 o ((o.length:Int)-1).toNat).gD=x.gD)||decide ((gt 13 o ((o.length:Int)-1).toNat).To<=x.From))
def popF (x:dW):Nat->Li 13->Li 13
 |0,o=>o
 |n+1,o=>bif Yw x o then popF x n (o.take (o.length-1))else o
def wJ (x:dW) (o:Li 13):Li 13:=popF x o.length o
theorem popI_t {x:dW} {o:Li 13} (h:Yw x o=true):wJ x o=wJ x (o.take (o.length-1)):=by
 have hp:0<o.length:=by
   simp only [Yw,bs]at h;omega
 unfold wJ;obtain⟨n,hn⟩:∃ n,o.length=n+1:=⟨o.length-1,au⟩
 have e:(o.take (o.length-1)).length=n:=by rw [List.length_take];omega
 rw [e,hn,popF,h,hn];rfl
theorem Yv {x:dW} {o:Li 13} {k:Nat} (hk:k=o.length-1) (h:Yw x o=true):wJ x o=wJ x (List.take k (List.drop 0 o)):=by
 subst hk;exact popI_t h
theorem Yu {x:dW} {o:Li 13} (h:Yw x o=false):wJ x o=o:=by
 unfold wJ
 cases hn:o.length with
 |zero=>rfl
 |succ n=>rw [popF,h];rfl
def QO (L:Li 13) (k:Nat) (o:Li 13) (next:Li 13->Bool):Bool :=
 bif decide (0<((wJ (gt 13 L k) o).length:Int))&&decide ((gt 13 (wJ (gt 13 L k) o) (((wJ (gt 13 L k) o).length:Int)-1).toNat).To<(gt 13 L k).To)then false else next (wJ (gt 13 L k) o++[gt 13 L k])
def QU (L:Li 13) (k:Nat) (o:Li 13) (next:Li 13->Bool):Bool :=
 bif decide (0<(k:Int))then(bif decide (0<cOr [uf (gt 13 L ((k:Int)-1).toNat).gD (gt 13 L k).gD,uf (gt 13 L ((k:Int)-1).toNat).From (gt 13 L k).From,uf (gt 13 L k).To (gt 13 L ((k:Int)-1).toNat).To])then false else QO L k o next)
 else QO L k o next
def inlF (_:Li 13):Bool:=true
def Gu (S:Li 61) (L:Li 13):Bool:=bif !((List.range L.length).all fun k=>YG S (gt 13 L k))then false else lp (QU L) inlF L.length 0 []
noncomputable def F_CS:Fact E0:=bM 205 Proofs.Tryz.f205 rfl rfl rfl [.g bL] (fun _ dw _ _ _ _ _ fG _ _ _=>.ok (.b (Gu dw fG))) [F_Br,Jq,F_AT] [] (by
   intro _ dw _ _ _ _ _ fG
   repeat intro _
   refine dP rfl rfl fun hk=>?_
   generalize hz:Gu dw fG=z;simp only [know]at hk
   repeat' first|refine sj_ bK trivial ?_|apply B_<;>intro h hc|apply I_;intro h
   all_goals conv=>whnf
   ·unfold Gu at hz;replace hz:=qV (by assumption) hz;exact hz
   ·unfold Gu at hz;replace hz:=nE (by assumption) hz
    refine Or.inr (Or.inr ⟨[(3,129,13)],[3,17,53,54,55,56,57,58,59,60,61,62,63,64,65,66,67,68,69,70,71,72,73,74,85,86,87,88,89,90,91,92,93,94],[],[],[1,15,16],[],?_⟩);conv=>whnf
    refine⟨fun(s:Unit×Int×Unit) (t:Li 13×Unit)=>0<=s.2.1/\s.2.1<=fG.length/\t.1.length<=s.2.1/\z=lp (QU fG) inlF (fG.length-s.2.1.toNat) s.2.1.toNat t.1,fun(s:Unit×Int×Unit) _=>(fG.length-s.2.1).toNat,?_⟩
    conv=>whnf
    refine eZ.mk ⟨bg,bg,by simp,hz.symm⟩ bA ?_
    rintro⟨_,(k:Int),_⟩ ⟨(o:Li 13),_⟩ ⟨h0,h1,hF,hS⟩
    try dsimp only at h0 h1 hF hS
    obtain⟨k,rfl⟩:=Int.eq_ofNat_of_zero_le h0;rw [Int.toNat_natCast]at hS
    repeat' first|refine dM ?_|apply B_<;>intro h hc|apply I_;intro h
    all_goals conv=>whnf
    ·(try dsimp only);refine Eq.trans ?_ (hS.trans (cK au)).symm;unfold QU QO;(try dsimp only);(repeat (first|exact rfl|refine gW (by assumption) ?_|refine gB (by assumption) ?_|refine jY (by first|assumption|omega) ?_|refine jZ (by first|assumption|omega) ?_))
    ·refine Or.inr (Or.inr ⟨[(3,129,13)],[3,53,54,55,56,57,58,59,60,61,62,63,64,65,66,67,68,69,70,71,72,73,74],[],[],[1,5,15,16,17,85,86,87,88,89,90,91,92,93,94],[1],?_⟩);conv=>whnf
     refine⟨fun(s:Unit×Unit) (t:Li 13×Unit)=>wJ (gt 13 fG k) o=wJ (gt 13 fG k) t.1/\t.1.length<=o.length,fun(s:Unit×Unit) (t:Li 13×Unit)=>t.1.length,?_⟩
     conv=>whnf
     refine eZ.mk ⟨rfl,Nat.le_refl _⟩ bA ?_;rintro⟨_,_⟩ ⟨(p:Li 13),_⟩ ⟨g0,g1⟩
     try dsimp only at g0 g1
     repeat' first|(refine w_ ?_;first|(apply aP;focus (first|(unfold rP<;>omega)|(refine Nat.le_trans (Nat.mul_le_mul_right _ (?_:_<=fG.length)) (And.left (by assumption:fG.length*BT 13<=140737488355328/\fG.length<=140737488355328))<;>(show _+1<=_)<;>omega)))|refine bO bK trivial ?_)|apply B_<;>intro h hc|apply I_;intro h
     all_goals conv=>whnf
     all_goals first
      |((try dsimp only);refine⟨g0.trans (Yv au (by assumption)),?_⟩;exact Nat.le_trans (by rw [List.length_take];exact Nat.min_le_right _ _) g1)
      |(have g2:wJ (gt 13 fG k) o=p:=g0.trans (Yu (by assumption));subst g2;first
         |((try dsimp only);refine⟨au,au,Int.le_trans (Int.le_of_eq (len1 (c:=13) _ _)) au,hS.trans ((cK au).trans ?_)⟩;rw [show((k:Int)+1).toNat=k+1 by omega];symm;unfold QU QO;(try dsimp only);all_goals exact lI)
         |((try dsimp only);refine Eq.trans ?_ (hS.trans (cK au)).symm;unfold QU QO;(try dsimp only);all_goals exact lI))
    ·refine Or.inr (Or.inr ⟨[(3,129,13)],[3,53,54,55,56,57,58,59,60,61,62,63,64,65,66,67,68,69,70,71,72,73,74],[],[],[1,5,15,16,17,85,86,87,88,89,90,91,92,93,94],[1],?_⟩);conv=>whnf
     refine⟨fun(s:Unit×Unit) (t:Li 13×Unit)=>wJ (gt 13 fG k) o=wJ (gt 13 fG k) t.1/\t.1.length<=o.length,fun(s:Unit×Unit) (t:Li 13×Unit)=>t.1.length,?_⟩
     conv=>whnf
     refine eZ.mk ⟨rfl,Nat.le_refl _⟩ bA ?_;rintro⟨_,_⟩ ⟨(p:Li 13),_⟩ ⟨g0,g1⟩
     try dsimp only at g0 g1
     repeat' first|(refine w_ ?_;first|(apply aP;focus (first|(unfold rP<;>omega)|(refine Nat.le_trans (Nat.mul_le_mul_right _ (?_:_<=fG.length)) (And.left (by assumption:fG.length*BT 13<=140737488355328/\fG.length<=140737488355328))<;>(show _+1<=_)<;>omega)))|refine bO bK trivial ?_)|apply B_<;>intro h hc|apply I_;intro h
     all_goals conv=>whnf
     all_goals first
      |((try dsimp only);refine⟨g0.trans (Yv au (by assumption)),?_⟩;exact Nat.le_trans (by rw [List.length_take];exact Nat.min_le_right _ _) g1)
      |(have g2:wJ (gt 13 fG k) o=p:=g0.trans (Yu (by assumption));subst g2;first
         |((try dsimp only);refine⟨au,au,Int.le_trans (Int.le_of_eq (len1 (c:=13) _ _)) au,hS.trans ((cK au).trans ?_)⟩;rw [show((k:Int)+1).toNat=k+1 by omega];symm;unfold QU QO;(try dsimp only);all_goals exact lI)
         |((try dsimp only);refine Eq.trans ?_ (hS.trans (cK au)).symm;unfold QU QO;(try dsimp only);all_goals exact lI))
    all_goals ((try dsimp only);refine Eq.trans ?_ (hS.trans (iZ au)).symm;unfold inlF;rfl))
end Go.SX
