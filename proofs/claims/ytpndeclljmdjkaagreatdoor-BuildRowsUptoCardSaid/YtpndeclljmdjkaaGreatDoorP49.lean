/- A part of the proof (texts B90). -/
import Derived.Test.YtpndeclljmdjkaaGreatDoorP10
import Derived.Test.YtpndeclljmdjkaaGreatDoorP33
import Derived.Test.YtpndeclljmdjkaaGreatDoorP47
set_option linter.all false
set_option maxRecDepth 100000
namespace Go.SX
open List renaming length -> ln
open Go.XK Go.RowKit
set_option maxHeartbeats 40000000
set_option maxHeartbeats 100000000 in
@[reducible] def a_GK:List SV->(SV->Prop)->Prop
 |[.agg [.str uName,.b eO,.aW EP 19 aj,.aW za 21 ak,.aW BG 23 aJ,.aW EW 6 aT,.aW EU 6 aS,.aW ET 1 aY,.i aG,.i aU,.i aL,.i aF,.aW vT 27 aH,.aW ze 31 aD],.agg [.aW E5 0 ay,.aW EZ 0 aB,.aW EY 35 aI,.i bJ,.i bD,.i aX,.i dX]]=>wkO (MX (⟨uName,eO,aj,ak,aJ,aT,aS,aY,⟨aG,aU,aL,aF⟩,aH,aD⟩:fZ) (⟨ay,aB,aI,bJ,bD,aX,dX⟩:bX)) (α:=jr×Int) (fun r=>bRes (⟨uName,eO,aj,ak,aJ,aT,aS,aY,⟨aG,aU,aL,aF⟩,aH,aD⟩:fZ) (⟨ay,aB,aI,bJ,bD,aX,dX⟩:bX) r) (fun r=>SV.jm [SV.agg [SV.str r.1.Name,SV.b r.1.Lib,SV.i r.1.Code,SV.i r.1.Data,SV.i r.1.Zero,SV.str r.1.Bytes,SV.str r.1.Tls,SV.i r.1.Block,SV.aW none 38 r.1.Nodes,SV.aW none 40 r.1.Exports,SV.aW none 21 r.1.Imports,SV.aW none 0 r.1.Slots,SV.aW none 0 r.1.kY,SV.aW none 42 r.1.Dyns,SV.aW none 0 r.1.lZ,SV.aW none 0 r.1.oQ,SV.i r.1.Entry,SV.aW none 1 r.1.Needs,SV.aW none 27 r.1.fJ,SV.aW none 9 r.1.Info.Marks,SV.aW none 11 r.1.Info.Lines,SV.aW none 44 r.1.Info.Ends,SV.aW none 13 r.1.Info.dK,SV.aW none 46 r.1.Info.Vars,SV.aW none 17 r.1.Info.gy,SV.aW none 49 r.1.Changes],SV.i r.2])
 |_=>fun _=>False
set_option maxHeartbeats 100000000 in
theorem o_GW:WOK 5 a_GK:=by
 intro args m ids vs K hG hm hv hK;unfold a_GK at hK;split at hK
 ·rename_i uName eO EP aj za ak BG aJ EW aT EU aS ET aY aG aU aL aF vT aH ze aD E5 ay EZ aB EY aI bJ bD aX dX;obtain⟨⟨hb⟩,hK⟩:=hK;refine calls_wk (DB:=[F_Dp,F_Cw,F_Dd,F_Ac,F_AA]) (IL:=[I_Es]) (WL:=[]) (fn:=Proofs.Tryz.f5) rfl rfl rfl rfl rfl (fun _=>rfl) (fun hk=>?_) m ids vs K hG hm hv hK
  clear hG hm hv hK;simp only [know]at hk;have hvo:vOk aH:=hb.vers;have hln:=hb.len;have q9:aj.length+aB.length+aI.length<=549755813888:=Nat.le_trans (Nat.add_le_add (Nat.add_le_add hln.1 hln.2.2.2.2.2.2.2.1) hln.2.2.2.2.2.2.2.2) (by decide)
  have al:lg uName aY aH aj ak aJ eO aT aS ⟨aG,aU,aL,aF⟩ aD=true->∀ k,k<aj.length->(gt 19 aj k).Align≠0:=fun h k hk=>(Aq (Nq (Xg h).1 hk).1).2.2.2.2
  have rs:wF aj 0<=1099511627776:=Nat.le_trans (Sv (fun k hk=>hb.refs k hk) _ 0 rfl) (Nat.le_trans (Nat.mul_le_mul_right _ (Nat.le_trans (Nat.sub_le _ _) hln.1)) (by decide))
  have sc:lg uName aY aH aj ak aJ eO aT aS ⟨aG,aU,aL,aF⟩ aD=true->ay.length=aj.length->∀ k,k<(fu aj ay).length->Fv ay (gt 58 (fu aj ay) k):=fun h hl k hk=>by
    have e:gt 58 (fu aj ay) k=(fu aj ay)[k]:=by
      show(fu aj ay).getD k _=_;rw [List.getD_eq_getElem?_getD,List.getElem?_eq_getElem hk];rfl
    rw [e];obtain⟨i,j,hi,hj,h6,hx⟩:=Ku.1 (List.getElem_mem hk);rw [hx];exact XJ (Xg h).1 hl hi hj h6
  have w1:(!lg uName aY aH aj ak aJ eO aT aS ⟨aG,aU,aL,aF⟩ aD)=false->(∀ k,k<aj.length->(gt 19 aj k).Align≠0)/\aj.length+aB.length+aI.length<=549755813888:=fun h=>⟨al (by simpa using h),q9⟩
  by_cases hR:(!lg uName aY aH aj ak aJ eO aT aS ⟨aG,aU,aL,aF⟩ aD || !jV aj ak.length ay aB aI bJ bD aX dX || !mg aj ak.length ay aB aI bJ bD aX dX)=true
  ·have hd0:=hR
   repeat' first|(refine w_ ?_;first|(apply aP;focus (first|exact fun hq=>w1 hq|exact fun hq=>⟨(w1 (by simp_all)).1,q9,rs,sc (by simp_all)⟩|exact hvo))|refine bO bK trivial ?_|(refine Or.inr (Or.inl ⟨[0,0,1,0,2,1,2,3],(.take 2 (.take 0 (.take 1 (.take 3 (.two 4 (.take 5 (.one 6 (.one 7 .done))) 6 (.one 4 (.take 5 (.one 7 .done)))))))),by decide +kernel,?_⟩))|(refine And.intro ?_ ?_))|apply B_<;>intro h hc|apply I_;intro h
   all_goals conv=>whnf
   refine⟨(VK,1),.inl ⟨?_,rfl⟩,bA⟩;unfold xL;simp only [Bool.or_eq_true,Bool.not_eq_true',Bool.and_eq_false_iff]at hR ⊢;exact hR
  have hd0:(!lg uName aY aH aj ak aJ eO aT aS ⟨aG,aU,aL,aF⟩ aD || !jV aj ak.length ay aB aI bJ bD aX dX || !mg aj ak.length ay aB aI bJ bD aX dX)=false:=Bool.not_eq_true _▸hR
  have hR2:(lg uName aY aH aj ak aJ eO aT aS ⟨aG,aU,aL,aF⟩ aD=true/\jV aj ak.length ay aB aI bJ bD aX dX=true)/\mg aj ak.length ay aB aI bJ bD aX dX=true:=by
    simp only [Bool.or_eq_false_iff,Bool.not_eq_false']at hd0;exact hd0
  have hBR:xL (⟨uName,eO,aj,ak,aJ,aT,aS,aY,⟨aG,aU,aL,aF⟩,aH,aD⟩:fZ) (⟨ay,aB,aI,bJ,bD,aX,dX⟩:bX)=true:=by
    unfold xL;simp only [Bool.and_eq_true];exact hR2
  obtain⟨⟨hu,hp⟩,hs⟩:=hR2;have H:BdF aj ak aJ aT aS aD ⟨aG,aU,aL,aF⟩ ay aB aI bJ bD:=bdf_of hb hu hs;obtain⟨z1,z2⟩:=H.lds;have mk:0<=bD/\bD=bD/\bD*((1:Nat):Int)<=140737488355328:=⟨z1,rfl,au⟩
  have hen:=H.en;clear hR
  repeat' first|(refine w_ ?_;first|(apply aP;focus (first|exact fun hq=>w1 hq|exact fun hq=>⟨(w1 (by simp_all)).1,q9,rs,sc (by simp_all)⟩|exact hvo))|refine XT bK trivial ?_|(refine Or.inr (Or.inl ⟨[0,0,1,0,2,1,2,3],(.take 2 (.take 0 (.take 1 (.take 3 (.two 4 (.take 5 (.one 6 (.one 7 .done))) 6 (.one 4 (.take 5 (.one 7 .done)))))))),by decide +kernel,?_⟩))|(refine And.intro ?_ ?_))|apply B_<;>intro h hc|apply I_;intro h
  all_goals conv=>whnf
  refine Or.inr (Or.inl ⟨Unit,2,[],[2,3,4],fun _=>[(6,.loc 3 0)],fun _=>[(3,.row 80 [.str uName,.b eO,.aW none 19 aj,.aW none 21 ak,.aW none 23 aJ,.aW none 6 aT,.aW none 6 aS,.aW none 1 aY,.i aG,.i aU,.i aL,.i aF,.aW none 27 aH,.aW none 31 aD,.aW none 0 ay,.aW none 0 aB,.aW none 35 aI,.i bJ,.i bD,.i aX,.i dX,.str ⟨#[]⟩,.b false,.i 0,.i 0,.i 0,.str ⟨#[]⟩,.str ⟨#[]⟩,.i 0,.v (.slice none 0 0),.v (.slice none 0 0),.v (.slice none 0 0),.v (.slice none 0 0),.v (.slice none 0 0),.v (.slice none 0 0),.v (.slice none 0 0),.v (.slice none 0 0),.i 0,.v (.slice none 0 0),.v (.slice none 0 0),.v (.slice none 0 0),.v (.slice none 0 0),.v (.slice none 0 0),.v (.slice none 0 0),.v (.slice none 0 0),.v (.slice none 0 0),.v (.slice none 0 0),.bT 4,.v (.slice none 0 0),.b true]),(4,.arr 5 none 3 (b0 bD))],[],fun _=>True,?_,fun _ _=>?_⟩)
  ·repeat' first|(refine w_ ?_;first|(apply aP;focus (exact mk))|refine bO bK trivial ?_|(refine Or.inr (Or.inl ⟨[0,0,1,0,2,1,2,3],(.take 2 (.take 0 (.take 1 (.take 3 (.two 4 (.take 5 (.one 6 (.one 7 .done))) 6 (.one 4 (.take 5 (.one 7 .done)))))))),by decide +kernel,?_⟩))|(refine And.intro ?_ ?_))|apply B_<;>intro h hc|apply I_;intro h
   all_goals conv=>whnf
   all_goals exact⟨(),trivial,bA⟩
  repeat' first|(refine w_ ?_;first|(apply aP;focus (exact hen))|refine bO bK trivial ?_|(refine Or.inr (Or.inl ⟨[0,0,1,0,2,1,2,3],(.take 2 (.take 0 (.take 1 (.take 3 (.two 4 (.take 5 (.one 6 (.one 7 .done))) 6 (.one 4 (.take 5 (.one 7 .done)))))))),by decide +kernel,?_⟩))|(refine And.intro ?_ ?_))|apply B_<;>intro h hc|apply I_;intro h
  all_goals conv=>whnf
  refine Or.inl ⟨Nat×BS,16,[(3000006,75,38),(3100006,137,40),(3400006,3,0),(3500006,73,42),(3600006,3,0),(3700006,3,0),(4100006,61,9),(4200006,63,11),(4300006,133,44),(4400006,129,13),(4500006,88,46),(4600006,131,17),(4700006,142,49),(4900006,5,3)],[3,4,61,62,104,105,106,107],fun s=>[(63,.i ((s.1:Nat):Int)),(6,.loc 5 0)],fun s=>[(5,Ee uName eO aj ak aJ aT aS aY aG aU aL aF aH aD ay aB aI bJ bD aX dX uName eO bJ bD aX ⟨#[]⟩ ⟨#[]⟩ dX 6 7 ak aB 8 9 10 11 (Ji ay ⟨aG,aU,aL,aF⟩ (-1)) aY aH 12 13 14 15 16 17 18 19 20 s.2.ok),(6,.arr 75 none 38 s.2.nodes),(7,.arr 137 none 40 []),(8,.arr 3 none 0 []),(9,.arr 73 none 42 s.2.dyns),(10,.arr 3 none 0 []),(11,.arr 3 none 0 []),(12,.arr 61 none 9 s.2.marks),(13,.arr 63 none 11 s.2.lines),(14,.arr 133 none 44 s.2.ends),(15,.arr 129 none 13 s.2.inls),(16,.arr 88 none 46 s.2.vars),(17,.arr 131 none 17 s.2.deps),(18,.arr 142 none 49 []),(19,.arr 5 none 3 s.2.Dk),(20,.arr 5 none 3 s.2.tl)],[3,4],fun s=>s.1<=@ln (ah 19) aj/\Hid (s.2=bF aj ak ay aB aI aX (b0 bD) s.1),fun s=>@ln (ah 19) aj-s.1,(0,bF aj ak ay aB aI aX (b0 bD) 0),⟨Nat.zero_le _,⟨rfl⟩⟩,?_,?_⟩
  ·exact bA
  rintro⟨k,s⟩ ⟨hk,hS⟩;replace hk:k<=@ln (ah 19) aj:=hk;replace hS:Hid (s=bF aj ak ay aB aI aX (b0 bD) k):=hS;have hz:@ln (ah 3) (b0 bD)=bD.toNat:=List.length_replicate;have hI:=Rp (I:=ak) (lz:=aX) (b0:=b0 bD) (fun k hk=>by rw [hz];exact H.nd k hk) H.np k hk
  rw [<- hS.out,hz]at hI;obtain⟨i1,i2,i3,i4,i5,i6,i7,i8,i9,i10⟩:=hI;have hn:@ln (ah 19) aj<=1048575:=hln.1;refine gK fun K0 hK0=>?_
  by_cases hkl:k<@ln (ah 19) aj
  ·have hd:decide ((k:Int)<(@ln (ah 19) aj:Nat))=true:=decide_eq_true au
   have ho:NdOk aj ay aB aI (@ln (ah 3) s.Dk) (k:Int):=by rw [i3];exact H.nd k hkl
   have hp:=H.np k hkl;have hkn:0<=(k:Int)/\(k:Int)<(@ln (ah 0) ay:Nat):=by have:=H.ll;exact⟨au,by have:@ln (ah 0) ay=@ln (ah 19) aj:=this;omega⟩
   have y1:@ln (ah 38) s.nodes<=1048576:=by omega
   have y2:@ln (ah 42) s.dyns<=1099510579200:=by omega
   have y3:@ln (ah 3) s.Dk<=1099511627776:=by omega
   have x1:@ln (ah 9) s.marks<=1099510579200:=by omega
   have x2:@ln (ah 11) s.lines<=1099510579200:=by omega
   have x3:@ln (ah 13) s.inls<=1099510579200:=by omega
   have x4:@ln (ah 46) s.vars<=1099510579200:=by omega
   have x5:@ln (ah 17) s.deps<=1099510579200:=by omega
   have x6:@ln (ah 44) s.ends<=1099510579200:=by omega
   have hv:=H.vr k hkl;have g1:=(hp.marks).1;have g2:=(hp.lines).1;have g3:=(hp.inls).1;have g4:=(hp.vars).1;have g5:=(hp.deps).1;clear i1 i2 i5 i6 i7 i8 i9 i10
   repeat' first|(refine jU ?_;first|(apply aP;focus (exact hkn))|refine bO (h_ [(7,6,3)]) trivial ?_|(refine Or.inl ⟨_,_,_,_,[5,6,7,8,9,10,11,12,13,14,15,16,17,18,19,20],aae (Hid.mk rfl) ho hp y1 y2 i4 y3,rfl,rfl,rfl,rfl,rfl,(aK (aK (aK (aK (aK (aK (aK (aK (aK (aK (aK (aK (aK (aK (aK (aK trivial)))))))))))))))),?_⟩;(rintro _ _ _ ⟨rfl,rfl,rfl⟩;refine aK (aK ?_)))|(refine Or.inl ⟨_,_,_,_,[5,22,7,8,23,10,11,12,13,14,15,16,17,18,19,24],aaf x1 g1 x2 g2 x3 g3 x4 g4 x5 g5 x6 hv,rfl,rfl,rfl,rfl,rfl,(aK (aK (aK (aK (aK (aK (aK (aK (aK (aK (aK (aK (aK (aK (aK (aK trivial)))))))))))))))),?_⟩;(rintro _ _ _ ⟨rfl,rfl,rfl⟩;refine aK (aK ?_)))|(refine Or.inr (Or.inl ⟨[0,0,1,0,2,1,2,3],(.take 2 (.take 0 (.take 1 (.take 3 (.two 4 (.take 5 (.one 6 (.one 7 .done))) 6 (.one 4 (.take 5 (.one 7 .done)))))))),by decide +kernel,?_⟩))|(refine And.intro ?_ ?_))|apply B_<;>intro h hc|apply I_;intro h
   all_goals refine iw ?_
   refine⟨(k+1,Uq aj ak ay aB aI aX k s),⟨hkl,⟨by rw [hS.out];rfl⟩⟩,?_,bA⟩
   show @ln (ah 19) aj-(k+1)<@ln (ah 19) aj-k;omega
  have hd:decide ((k:Int)<(@ln (ah 19) aj:Nat))=false:=decide_eq_false au
  obtain rfl:k=@ln (ah 19) aj:=by omega
  repeat' first|(refine jU ?_;first|refine bO bK trivial ?_|(refine Or.inr (Or.inl ⟨[0,0,1,0,2,1,2,3],(.take 2 (.take 0 (.take 1 (.take 3 (.two 4 (.take 5 (.one 6 (.one 7 .done))) 6 (.one 4 (.take 5 (.one 7 .done)))))))),by decide +kernel,?_⟩))|(refine And.intro ?_ ?_))|apply B_<;>intro h hc|apply I_;intro h
  all_goals refine iw ?_
  refine Or.inl ⟨Nat×BU,1,[],[4,6,79,80,104,105,106,107],fun q=>[(81,.i ((q.1:Nat):Int))],fun q=>[(5,Ee uName eO aj ak aJ aT aS aY aG aU aL aF aH aD ay aB aI bJ bD aX dX uName eO bJ bD aX ⟨#[]⟩ ⟨#[]⟩ dX 6 7 ak aB 21 9 10 11 (Ji ay ⟨aG,aU,aL,aF⟩ (-1)) aY aH 12 13 14 15 16 17 18 19 20 q.2.ok),(21,.arr 3 none 0 q.2.Jz),(19,.arr 5 none 3 q.2.Dk)],[8],fun q=>q.1<=@ln (ah 35) aI/\Hid (q.2=bU ay aB aI s.Dk s.ok q.1),fun q=>@ln (ah 35) aI-q.1,(0,bU ay aB aI s.Dk s.ok 0),⟨Nat.zero_le _,⟨rfl⟩⟩,?_,?_⟩
  ·exact bA
  rintro⟨j,q⟩ ⟨hj,hQ⟩;replace hj:j<=@ln (ah 35) aI:=hj;replace hQ:Hid (q=bU ay aB aI s.Dk s.ok j):=hQ;have hJ:=bU_inv (lN:=ay) (lS:=aB) (T:=aI) (b0:=s.Dk) (o:=s.ok) (fun k hk=>by have:=H.sa k hk;rw [i3];omega) j hj
  rw [<- hQ.out,i3]at hJ;obtain⟨v1,v2⟩:=hJ;have hnT:@ln (ah 35) aI<=1048576:=hln.2.2.2.2.2.2.2.2;refine gK fun K1 hK1=>?_
  by_cases hjl:j<@ln (ah 35) aI
  ·have hd:decide ((j:Int)<(@ln (ah 35) aI:Nat))=true:=decide_eq_true au
   have a1:=H.s1 j hjl;have a0:=H.s0 j hjl;obtain⟨a2,a3⟩:=H.sa j hjl;have a4:(gt 35 aI j:fA).At+8<=(@ln (ah 3) q.Dk:Nat):=by rw [v2];omega
   have a5:@ln (ah 3) q.Dk<=1048576:=by omega
   have a6:@ln (ah 0) q.Jz<=1048576:=by omega
   repeat' first|(refine jU ?_;first|refine bO bK trivial ?_|(refine Or.inl ⟨_,_,_,_,[5,6,7,21,9,10,11,12,13,14,15,16,17,18,19,20],aac a1 a0 a2 a4 a5 a6,rfl,rfl,rfl,rfl,rfl,(aK (aK (aK (aK (aK (aK (aK (aK (aK (aK (aK (aK (aK (aK (aK (aK trivial)))))))))))))))),?_⟩;(rintro _ _ _ ⟨rfl,rfl,rfl⟩;refine aK (aK ?_)))|(refine Or.inr (Or.inl ⟨[0,0,1,0,2,1,2,3],(.take 2 (.take 0 (.take 1 (.take 3 (.two 4 (.take 5 (.one 6 (.one 7 .done))) 6 (.one 4 (.take 5 (.one 7 .done)))))))),by decide +kernel,?_⟩))|(refine And.intro ?_ ?_))|apply B_<;>intro h hc|apply I_;intro h
   all_goals refine iw ?_
   refine⟨(j+1,⟨@HAppend.hAppend (List Int) (List Int) (List Int) _ q.Jz [(gt 35 aI j:fA).At],Lf q.Dk (gt 35 aI j:fA).At (pI (qJ aB ay (gt 35 aI j))),q.ok&&wU (qJ aB ay (gt 35 aI j))⟩),⟨hjl,⟨by rw [hQ.out];rfl⟩⟩,?_,bA⟩
   show @ln (ah 35) aI-(j+1)<@ln (ah 35) aI-j;omega
  have hd:decide ((j:Int)<(@ln (ah 35) aI:Nat))=false:=decide_eq_false au
  obtain rfl:j=@ln (ah 35) aI:=by omega
  have e1:s=bB (⟨uName,eO,aj,ak,aJ,aT,aS,aY,⟨aG,aU,aL,aF⟩,aH,aD⟩:fZ) (⟨ay,aB,aI,bJ,bD,aX,dX⟩:bX):=hS.out;have e2:q=bV (⟨uName,eO,aj,ak,aJ,aT,aS,aY,⟨aG,aU,aL,aF⟩,aH,aD⟩:fZ) (⟨ay,aB,aI,bJ,bD,aX,dX⟩:bX):=by rw [hQ.out,e1];rfl
  clear hS hQ
  have hIm:∀ x d,ImOk (bImgS (⟨uName,eO,aj,ak,aJ,aT,aS,aY,⟨aG,aU,aL,aF⟩,aH,aD⟩:fZ) (⟨ay,aB,aI,bJ,bD,aX,dX⟩:bX) s q x d):=fun x d=>by
    have h:=ZM (u:=(⟨uName,eO,aj,ak,aJ,aT,aS,aY,⟨aG,aU,aL,aF⟩,aH,aD⟩:fZ)) (l:=(⟨ay,aB,aI,bJ,bD,aX,dX⟩:bX)) hb H.k4 x d;rw [e1,e2];exact h
  have p1:@ln (ah 42) s.dyns<=1099510579200:=by omega
  have p2:=bh5 (M:=aB) s.dyns;have p3:@ln (ah 42) (D6 aB s.dyns)<=1099511627776:=by have:=hln.2.2.2.2.2.2.2.1;have:@ln (ah 0) aB<=1048576:=this;omega
  have x1:@ln (ah 9) s.marks<=1099511627776:=by omega
  have x2:@ln (ah 11) s.lines<=1099511627776:=by omega
  have x3:@ln (ah 13) s.inls<=1099511627776:=by omega
  have x4:@ln (ah 46) s.vars<=1099511627776:=by omega
  have x5:@ln (ah 17) s.deps<=1099511627776:=by omega
  have x6:@ln (ah 44) s.ends<=1099511627776:=by omega
  have gk:=hln;have y1:@ln (ah 3) q.Dk<=140737488355328:=by omega
  have y2:@ln (ah 3) s.tl<=140737488355328:=by omega
  clear v1 v2 i3 i4
  repeat' first|(refine jU ?_;first|(apply aP;focus (exact fun _=>hIm ⟨t0,t1,t2,t3,t4,t5⟩ t6))|refine bO bK trivial ?_|(refine Or.inl ⟨_,_,_,_,[5,6,7,21,9,10,11,12,13,14,15,16,17,18,19,20],VU (Nat.zero_le _) (Nat.zero_le _) (Nat.zero_le _) (Nat.zero_le _) p1 gk.2.2.1 gk.2.2.2.1 gk.2.2.2.2.1 gk.2.2.2.2.2.1 gk.2.2.2.2.2.2.2.1 H.k1 H.k2 H.k3 H.k4 H.k5,rfl,rfl,rfl,rfl,rfl,(aK (aK (aK (aK (aK (aK (aK (aK (aK (aK (aK (aK (aK (aK (aK (aK trivial)))))))))))))))),?_⟩;(rintro _ _ _ ⟨rfl,rfl,rfl⟩;refine aK (aK ?_)))|(refine Or.inl ⟨_,_,_,_,[5,6,22,21,26,23,24,12,13,14,15,16,17,25,19,20],aad x1 x2 x6 x3 x4 x5 p3,rfl,rfl,rfl,rfl,rfl,(aK (aK (aK (aK (aK (aK (aK (aK (aK (aK (aK (aK (aK (aK (aK (aK trivial)))))))))))))))),?_⟩;(rintro _ _ _ ⟨rfl,⟨t0,t1,t2,t3,t4,t5,t6,w0,w1,w2,w3,w4,w5,w6,rfl⟩,rfl⟩;refine aK (aK ?_)))|(refine Or.inr (Or.inl ⟨[0,0,1,0,2,1,2,3],(.take 2 (.take 0 (.take 1 (.take 3 (.two 4 (.take 5 (.one 6 (.one 7 .done))) 6 (.one 4 (.take 5 (.one 7 .done)))))))),by decide +kernel,?_⟩))|(refine And.intro ?_ ?_))|apply B_<;>intro h hc|apply I_;intro h
  all_goals refine iw ?_
  ·subst e1 e2;exact⟨(VK,6),.inr ⟨hBR,⟨t0,t1,t2,t3,t4,t5⟩,t6,⟨w0,w1,w2,w3,w4,w5,w6⟩,gW hc rfl⟩,bA⟩
  ·subst e1 e2;exact⟨(Io (⟨uName,eO,aj,ak,aJ,aT,aS,aY,⟨aG,aU,aL,aF⟩,aH,aD⟩:fZ) (⟨ay,aB,aI,bJ,bD,aX,dX⟩:bX) ⟨t0,t1,t2,t3,t4,t5⟩ t6,0),.inr ⟨hBR,⟨t0,t1,t2,t3,t4,t5⟩,t6,⟨w0,w1,w2,w3,w4,w5,w6⟩,gB hc rfl⟩,bA⟩
 ·exact hK.elim
noncomputable def W_GJ:Wk E0:=Wk.co [.agg [.un,.un,.aW none 19 [],.aW none 21 [],.aW none 23 [],.aW none 6 [],.aW none 6 [],.aW none 1 [],.un,.un,.un,.un,.aW none 27 [],.aW none 31 []],.agg [.aW none 0 [],.aW none 0 [],.aW none 35 [],.un,.un,.un,.un]] ⟨5,a_GK,by unfold dA;kernel_rfl,o_GW⟩
end Go.SX
