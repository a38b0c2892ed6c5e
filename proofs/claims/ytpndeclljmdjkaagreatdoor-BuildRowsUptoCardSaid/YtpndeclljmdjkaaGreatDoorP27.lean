/- A part of the proof (texts B37, B41). -/
import Derived.Test.YtpndeclljmdjkaaGreatDoorP08
import Derived.Test.YtpndeclljmdjkaaGreatDoorP10
import Derived.Test.YtpndeclljmdjkaaGreatDoorP14
import Derived.Test.YtpndeclljmdjkaaGreatDoorP26
set_option linter.all false
set_option maxRecDepth 100000
namespace Go.SX
open Int renaming eq_ofNat_of_zero_le -> cO,toNat_natCast -> bP
open List renaming length -> ln
open Go.XK Go.RowKit
set_option maxHeartbeats 40000000
set_option maxHeartbeats 60000000 in
theorem hc_find {zn z1 z2 z3 z4 z5:Option Bool} {nx:Li 34} {index low stack part:Li 0} {parts:Li 34} {count root:Int} {n:Nat} (hn:n<=262144) (hx:qp nx n) (hf:FOk nx n index ⟨index,low,stack,part,parts,count⟩) (hst:stack=[]) (hpl:List.length (α:=List Int) parts<=vis index) (hr:0<=root/\root<n) (h0:gi index root=0):HC E0 353 7 [.loc 0 0,.i root,.loc 6 0] [(0,.row 429 [.aW zn 34 nx,.bT 1,.bT 2,.bT 3,.bT 4,.bT 5]),(1,.arr 3 z1 0 index),(2,.arr 3 z2 0 low),(3,.arr 3 z3 0 stack),(4,.arr 3 z4 0 part),(5,.arr 33 z5 34 parts),(6,.row 3 [.i count])] (fun s H n=>s=.jm []/\H=[(0,.row 429 [.aW none 34 nx,.bT 7,.bT 8,.bT 9,.bT 10,.bT 11]),(7,.arr 3 none 0 (qU nx ⟨index,low,stack,part,parts,count⟩ root).index),(8,.arr 3 none 0 (qU nx ⟨index,low,stack,part,parts,count⟩ root).low),(9,.arr 3 none 0 (qU nx ⟨index,low,stack,part,parts,count⟩ root).stack),(10,.arr 3 none 0 (qU nx ⟨index,low,stack,part,parts,count⟩ root).part),(11,.arr 33 none 34 (qU nx ⟨index,low,stack,part,parts,count⟩ root).parts),(6,.row 3 [.i (qU nx ⟨index,low,stack,part,parts,count⟩ root).count])]/\n=12):=by
 generalize hRS:qU nx ⟨index,low,stack,part,parts,count⟩ root=RS;subst hst;have hci:count=(vis index:Nat):=hf.cnt;have hvl:vis index<=n:=Nat.le_trans (KW index) (Nat.le_of_eq hf.li);have VR:@ln (ah 0) index=n:=hf.li;have hll:@ln (ah 0) low=n:=hf.ll;have hO1:0<=root/\root<(@ln (ah 0) index:Nat):=by rw [VR];exact hr
 have hO2:0<=root/\root<(@ln (ah 0) low:Nat):=by rw [hll];exact hr
 have hcb:0<=count/\count<=262144:=by omega
 refine dG (DB:=[]) (IL:=[]) (WL:=[]) (fn:=Proofs.Tryz.f353) rfl rfl rfl rfl (by unfold dA;kernel_rfl) (fun hk=>?_)
 simp only [know]at hk
 repeat' first|(refine w_ ?_;first|refine bO bK trivial ?_|(refine Or.inl ⟨_,_,_,_,[8,7,6,0,1,2,3,4,5],OC hcb hO1 hO2 (Nat.zero_le _),rfl,rfl,rfl,rfl,rfl,(aK (aK (aK (aK (aK (aK (aK (aK (aK trivial))))))))),?_⟩;(rintro _ _ _ ⟨rfl,rfl,rfl⟩;refine aK (aK ?_))))|apply B_<;>intro h hc|apply I_;intro h
 all_goals conv=>whnf
 refine Or.inr (Or.inr ⟨[(7,453,84)],[7],[],[0,6],[3,6],[1,2,4,5,9,10],?_⟩);conv=>whnf
 generalize hFN:jD nx (yB nx (uD ⟨index,low,[],part,parts,count⟩ root)) (uD ⟨index,low,[],part,parts,count⟩ root)=FIN;refine⟨fun(s:Unit×Unit) (t:TF)=>t.2.1.1=nx/\Dv nx n index root (count+1) (gsOf t)/\FIN=jD nx (yB nx (gsOf t)) (gsOf t),fun(s:Unit×Unit) (t:TF)=>yB nx (gsOf t),?_⟩
 conv=>whnf
 refine eZ.mk ⟨rfl,Nv hx hf rfl hpl hr h0,hFN.symm⟩ bA ?_;rintro⟨_,_⟩ ⟨(calls:Li 84),⟨(jw:Li 34),_,_,_,_,_,_⟩,(ix:Li 0),(lw:Li 0),(stk:Li 0),(prt:Li 0),(vB:Li 34),⟨(cnt:Int),_⟩,_⟩ ⟨hnx,hG,hF⟩
 try dsimp only at hnx
 subst hnx;replace hG:Dv jw n index root (count+1) ⟨calls,⟨ix,lw,stk,prt,vB,cnt⟩⟩:=hG;replace hF:FIN=jD jw (yB jw ⟨calls,⟨ix,lw,stk,prt,vB,cnt⟩⟩) ⟨calls,⟨ix,lw,stk,prt,vB,cnt⟩⟩:=hF;have hS:=gsafe hx hG;have hcb2:0<=cnt/\cnt<=262144:=⟨hS.c0.1,Int.le_trans hS.c0.2 au⟩
 have n1:@ln (ah 34) jw=n:=hS.nl;have n2:@ln (ah 0) ix=n:=hS.li;have n3:@ln (ah 0) lw=n:=hS.ll;have n4:@ln (ah 0) prt=n:=hS.lp;have n5:@ln (ah 84) calls<=n:=hS.cl;have n6:@ln (ah 0) stk<=n:=hS.sl;have hp7:@ln (ah 34) vB<=262144:=Nat.le_trans hS.pl au
 have hs6:@ln (ah 0) stk<=262144:=by omega
 have n7:@ln (ah 34) vB<=n:=hS.pl;have o1:0<@ln (ah 84) calls->0<=(topC calls).v/\(topC calls).v<(@ln (ah 34) jw:Nat):=fun h=>by rw [n1];exact hS.v h
 have o1l:0<@ln (ah 84) calls->0<=(topC calls).v/\(topC calls).v<(@ln (ah 0) lw:Nat):=fun h=>by rw [n3];exact hS.v h
 have o1i:0<@ln (ah 84) calls->0<=(topC calls).v/\(topC calls).v<(@ln (ah 0) ix:Nat):=fun h=>by rw [n2];exact hS.v h
 have o1s:∀ k x,0<@ln (ah 84) calls->0<=(topC calls).v/\(topC calls).v<(@ln (ah 0) (List.set (α:=ah 0) lw k x):Nat):=fun k x h=>by rw [@List.length_set (ah 0) lw k x];exact o1l h
 have o2:0<@ln (ah 84) calls->0<=(topC calls).i:=fun h=>(hS.i h).1
 have o3:0<@ln (ah 84) calls->(topC calls).i<(aQ jw (topC calls).v.toNat).length->0<=gi (aQ jw (topC calls).v.toNat) (topC calls).i/\gi (aQ jw (topC calls).v.toNat) (topC calls).i<(@ln (ah 0) ix:Nat):=fun h hi=>by rw [n2];exact hS.w h hi
 have o3l:0<@ln (ah 84) calls->(topC calls).i<(aQ jw (topC calls).v.toNat).length->0<=gi (aQ jw (topC calls).v.toNat) (topC calls).i/\gi (aQ jw (topC calls).v.toNat) (topC calls).i<(@ln (ah 0) lw:Nat):=fun h hi=>by rw [n3];exact hS.w h hi
 have o3p:0<@ln (ah 84) calls->(topC calls).i<(aQ jw (topC calls).v.toNat).length->0<=gi (aQ jw (topC calls).v.toNat) (topC calls).i/\gi (aQ jw (topC calls).v.toNat) (topC calls).i<(@ln (ah 0) prt:Nat):=fun h hi=>by rw [n4];exact hS.w h hi
 have o5:0<@ln (ah 84) calls->0<=((qg calls).getD ((@ln (ah 84) calls:Int)-1).toNat ⟨0,0⟩).v/\((qg calls).getD ((@ln (ah 84) calls:Int)-1).toNat ⟨0,0⟩).v<(@ln (ah 0) lw:Nat):=fun h=>by
   rw [n3];have e:=Ov (cs:=calls) h;exact⟨Int.le_trans (hS.v h).1 (Int.le_of_eq e.symm),Int.lt_of_le_of_lt (Int.le_of_eq e) (hS.v h).2⟩
 have o8:1<@ln (ah 84) calls->0<=(List.getD (α:=bR) calls (0+((@ln (ah 84) calls:Int)-1-0-1)).toNat ⟨0,0⟩).v/\(List.getD (α:=bR) calls (0+((@ln (ah 84) calls:Int)-1-0-1)).toNat ⟨0,0⟩).v<(@ln (ah 0) lw:Nat):=fun h=>by
   rw [n3];have e:=R3 (cs:=calls) h;exact⟨Int.le_trans (hS.u h).1 (Int.le_of_eq e.symm),Int.lt_of_le_of_lt (Int.le_of_eq e) (hS.u h).2⟩
 repeat' first|(refine w_ ?_;first|(apply aP;focus (first|exact o1 au|exact⟨o2 au,by assumption⟩))|refine bO bK trivial ?_)|apply B_<;>intro h hc|apply I_;intro h
 all_goals conv=>whnf
 ·have hc0:0<@ln (ah 84) calls:=by omega
  have hi:(topC calls).i<(aQ jw (topC calls).v.toNat).length:=by assumption
  have q1:=o3 hc0 hi;have q2:=o3l hc0 hi;have q3:=o3p hc0 hi;have q4:=o5 hc0;clear o1 o1l o1i o1s o2 o3 o3l o3p o5 o8
  repeat' first|(refine w_ ?_;first|(apply aP;focus (first|exact q1|exact q4|exact q3))|refine bO bK trivial ?_)|apply B_<;>intro h hc|apply I_;intro h
  all_goals conv=>whnf
  ·refine Or.inl ⟨_,_,_,_,[8,7,6,0,12,13,14,15,16],OC hcb2 q1 q2 hs6,rfl,rfl,rfl,rfl,rfl,(aK (aK (aK (aK (aK (aK (aK (aK (aK trivial))))))))),?_⟩;rintro _ _ _ ⟨rfl,rfl,rfl⟩;refine aK (aK ?_)
   have hl5:(@ln (ah 84) (qg calls)+1)*16<=140737488355328:=by
     have e:@ln (ah 84) (qg calls)=@ln (ah 84) calls:=List.length_set ..;omega
   repeat' first|(refine w_ ?_;first|(apply aP;focus (exact hl5))|refine bO bK trivial ?_)|apply B_<;>intro h hc|apply I_;intro h
   all_goals conv=>whnf
   have R:=uI hx hG hF _ (P6 hc0 hi (by assumption))
   exact KF.mk ⟨rfl,R.1,R.2.1⟩ R.2.2 bA
  ·have R:=uI hx hG hF _ (XL hc0 hi (by assumption) (by assumption) (Ov (cs:=calls) hc0))
   exact KF.mk ⟨rfl,R.1,R.2.1⟩ R.2.2 bA
  ·have R:=uI hx hG hF _ (step_skip hc0 hi (by assumption) (by assumption))
   exact KF.mk ⟨rfl,R.1,R.2.1⟩ R.2.2 bA
 ·have hc1:1<@ln (ah 84) calls:=by omega
  have hc0:0<@ln (ah 84) calls:=by omega
  have hi:¬ (topC calls).i<(aQ jw (topC calls).v.toNat).length:=by assumption
  have q1:=o8 hc1;have q2:=o1l hc0;have q3:=fun k x=>o1s k x hc0
  have q4:=o1i hc0;have hcl1:wV stk (topC calls).v (List.length (α:=Int) stk):=Ow (top_stack hG hc0);have hrg:∀ w:Int,wV stk w (List.length (α:=Int) stk)->0<=w/\w<(@ln (ah 0) prt:Nat):=fun w hw=>by rw [n4];exact hG.sr w (List.mem_of_mem_take hw)
  have hup:=R3 (cs:=calls) hc1;clear o1 o1l o1i o1s o2 o3 o3l o3p o5 o8
  repeat' first|(refine w_ ?_;first|(apply aP;focus (first|exact q3 _ _|exact q1|exact q2|exact q4))|refine bO bK trivial ?_)|apply B_<;>intro h hc|apply I_;intro h
  all_goals conv=>whnf
  ·refine Or.inl ⟨_,_,_,_,[0,12,13,14,15,16],OE (count:=cnt) (index:=ix) (low:=_) (nx:=jw) (parts:=vB) hcl1 hs6 hp7 hrg,rfl,rfl,rfl,rfl,rfl,(aK (aK (aK (aK (aK (aK trivial)))))),?_⟩;rintro _ _ _ ⟨rfl,rfl,rfl⟩;refine aK (aK ?_)
   conv=>whnf
   have R:=uI hx hG hF _ (UW hc1 hi (xZ calls) hup (by assumption))
   exact KF.mk ⟨rfl,R.1,R.2.1⟩ R.2.2 bA
  ·have R:=uI hx hG hF _ (UU hc1 hi (xZ calls) hup (by assumption))
   exact KF.mk ⟨rfl,R.1,R.2.1⟩ R.2.2 bA
 ·have hc1:¬ 1<@ln (ah 84) calls:=by omega
  have hc0:0<@ln (ah 84) calls:=by omega
  have hi:¬ (topC calls).i<(aQ jw (topC calls).v.toNat).length:=by assumption
  have q2:=o1l hc0;have q4:=o1i hc0;have hcl1:wV stk (topC calls).v (List.length (α:=Int) stk):=Ow (top_stack hG hc0);have hrg:∀ w:Int,wV stk w (List.length (α:=Int) stk)->0<=w/\w<(@ln (ah 0) prt:Nat):=fun w hw=>by rw [n4];exact hG.sr w (List.mem_of_mem_take hw)
  clear o1 o1l o1i o1s o2 o3 o3l o3p o5 o8
  repeat' first|(refine w_ ?_;first|(apply aP;focus (first|exact q2|exact q4))|refine bO bK trivial ?_)|apply B_<;>intro h hc|apply I_;intro h
  all_goals conv=>whnf
  ·refine Or.inl ⟨_,_,_,_,[0,12,13,14,15,16],OE (count:=cnt) (index:=ix) (low:=_) (nx:=jw) (parts:=vB) hcl1 hs6 hp7 hrg,rfl,rfl,rfl,rfl,rfl,(aK (aK (aK (aK (aK (aK trivial)))))),?_⟩;rintro _ _ _ ⟨rfl,rfl,rfl⟩;refine aK (aK ?_)
   conv=>whnf
   have R:=uI hx hG hF _ (UR hc0 hc1 hi (xZ calls) (by assumption))
   exact KF.mk ⟨rfl,R.1,R.2.1⟩ R.2.2 bA
  ·have R:=uI hx hG hF _ (UQ hc0 hc1 hi (xZ calls) (by assumption))
   exact KF.mk ⟨rfl,R.1,R.2.1⟩ R.2.2 bA
 all_goals (
   have he:=LB (n:=n) (j4:=index) (root:=root) (R:=count+1) hF (by show ¬ 0<@ln (ah 84) calls;omega)
   have hres:RS=⟨ix,lw,stk,prt,vB,cnt⟩:=hRS.symm.trans (show qU jw ⟨index,low,[],part,parts,count⟩ root=_ from by
     unfold qU
     rw [hFN,he])
   subst hres;refine⟨[],[],_,_,[12,13,14,15,16],⟨rfl,rfl,rfl⟩,?_⟩
   conv=>whnf
   exact bA)
abbrev bH:Bool:=true
abbrev eG:Bool:=false
abbrev qy (n:Int):HB:=.arr 3 none 0 (List.replicate (α:=ah 0) n.toNat (0:Int))
abbrev Pw:HB:=.row 429 [.v (.slice none 0 0),.v (.slice none 0 0),.v (.slice none 0 0),.v (.slice none 0 0),.v (.slice none 0 0),.v (.slice none 0 0)]
abbrev yT (n:Int) (aA:Li 78) (r:List (Nat×SV)) (h:List (Nat×HB)) (k:Nat):St:=⟨(0,.i n)::(1,.aW none 78 aA)::(27,.i n)::(28,.aW none 78 aA)::(30,.i n)::(32,.i n)::(34,.i n)::r,[],[],h,k,0⟩
abbrev TVf:=(Li 34×Unit×Unit×Unit×Unit×Unit×Unit)×(Li 0×(Li 0×(Li 0×(Li 0×(Li 34×((Int×Unit)×Unit))))))
def fsOf (t:TVf):FS:=⟨t.2.1,t.2.2.1,t.2.2.2.1,t.2.2.2.2.1,t.2.2.2.2.2.1,t.2.2.2.2.2.2.1.1⟩
theorem Z5 {z:Option Bool} {l:Li 34} (h0:0<@ln (ah 34) l) (hb:@ln (ah 34) l<=262144) (hR:NE l):HC E0 355 2 [.uo 431 (.loc 0 0)] [(0,.row 432 [.bT 1]),(1,.arr 33 z 34 l)] (fun s H n=>s=.uo 33 (.aW none 0 (yM l))/\H=[(0,.row 432 [.bT 2]),(2,.arr 33 none 34 (List.take (@ln (ah 34) l-1) (qM l)))]/\n=3):=by
 have h:=hc_hpop (z:=z) h0 hb hR;have e:@ln (ah 34) (qM l)=@ln (ah 34) l:=(Gl h0).1;have e2:((@ln (ah 34) l:Int)-1).toNat=@ln (ah 34) l-1:=by omega
 rw [e,e2]at h;exact h
noncomputable def F_AW:Fact E0:=bM 262 Proofs.Tryz.f262 rfl rfl rfl [.i,.l 78] (fun n aA=>.ok (.aW none 34 (kQ n aA))) [F_AX,F_AZ] [I_Ew] (by
   intro n aA;refine dP rfl rfl fun hk=>?_
   simp only [know]at hk
   repeat' (refine w_ ?_;first|(intro bq;cases bq;rotate_left;(focus (intro hbq;exact absurd (hbq rfl) au));intro _)|((fail_if_success (apply Ih));(fail_if_success (apply Fu));(fail_if_success (apply jR_));apply Or.inl)|(apply F7;exact F8;exact bA)|(apply GK;exact bA)|(apply aP;first|exact qO|(exact of_decide_eq_true rfl))|(apply And.intro<;>(intro h;have hc:=h;(try exact vM hc);(try exact vL hc);try simp only [bs]at h))|(intro h;(try (unfold und at h;conv at h=>whnf));try simp only [bs]at h)|(apply qB;exact qA)|(apply qD;exact qC))
   all_goals conv=>whnf
   · exact⟨Or.inl rfl,(congrArg (fun b=>bif b then partsOf n.toNat (iP n aA)else []) (by assumption)).trans (cond_false _ _)⟩
   have hgr:pK n aA=true:=by assumption
   have hgo:=Lm hgr;have hn0:0<=n:=hgo.1;have hn1:n<=262144:=hgo.2.1;have hmk:0<=n/\n=n/\n*(8:Nat)<=140737488355328:=⟨hn0,rfl,au⟩
   refine Or.inr (Or.inl ⟨Unit,4,[],[0],fun _=>[(5,.loc 0 0)],fun _=>[(0,.row 429 [.aW none 34 (iP n aA),.bT 1,.bT 2,.v (.slice none 0 0),.bT 3,.v (.slice none 0 0)]),(1,.arr 3 none 0 (List.replicate (α:=ah 0) n.toNat (0:Int))),(2,.arr 3 none 0 (List.replicate (α:=ah 0) n.toNat (0:Int))),(3,.arr 3 none 0 (List.replicate (α:=ah 0) n.toNat (0:Int)))],[],fun _=>True,?_,fun _ _=>?_⟩)
   · conv=>whnf
     refine Or.inr (Or.inr (Exists.intro [1,1,2,1,2,1,2,1,2,1,2,3] (Exists.intro [⟨6,#[bH,bH,eG,bH,eG,bH,eG,bH,eG,eG,eG,eG],0,yT n aA [] [] 0,[(2,.jmp 0),(4,.jmp 1),(6,.jmp 2),(8,.jmp 3),(10,.jmp 4)]⟩,
    ⟨5,#[bH,bH,bH,bH,eG,bH,eG,bH,eG,eG,eG,eG],0,yT n aA [(29,.aW none 34 (iP n aA))] [] 0,[(4,.jmp 4),(6,.jmp 5),(8,.jmp 6),(10,.jmp 7)]⟩,
    ⟨5,#[bH,bH,eG,bH,bH,bH,eG,bH,eG,eG,eG,eG],0,yT n aA [(31,.bT 0)] [(0,qy n)] 1,[(2,.jmp 3),(6,.jmp 7),(8,.jmp 8),(10,.jmp 9)]⟩,
    ⟨5,#[bH,bH,eG,bH,eG,bH,bH,bH,eG,eG,eG,eG],0,yT n aA [(33,.bT 0)] [(0,qy n)] 1,[(2,.jmp 3),(4,.jmp 6),(8,.jmp 9),(10,.jmp 10)]⟩,
    ⟨5,#[bH,bH,eG,bH,eG,bH,eG,bH,bH,eG,eG,eG],0,yT n aA [(35,.bT 0)] [(0,qy n)] 1,[(2,.jmp 3),(4,.jmp 6),(6,.jmp 8),(10,.jmp 10)]⟩,
    ⟨5,#[bH,bH,eG,bH,eG,bH,eG,bH,eG,eG,bH,eG],0,yT n aA [(5,.loc 0 0)] [(0,Pw)] 1,[(2,.jmp 3),(4,.jmp 6),(6,.jmp 8),(8,.jmp 9)]⟩,
    ⟨4,#[bH,bH,bH,bH,bH,bH,eG,bH,eG,eG,eG,eG],0,yT n aA [(29,.aW none 34 (iP n aA)),(31,.bT 0)] [(0,qy n)] 1,[(6,.jmp 9),(8,.jmp 10),(10,.jmp 11)]⟩,
    ⟨4,#[bH,bH,bH,bH,eG,bH,bH,bH,eG,eG,eG,eG],0,yT n aA [(29,.aW none 34 (iP n aA)),(33,.bT 0)] [(0,qy n)] 1,[(4,.jmp 8),(8,.jmp 11),(10,.jmp 12)]⟩,
    ⟨4,#[bH,bH,bH,bH,eG,bH,eG,bH,bH,eG,eG,eG],0,yT n aA [(29,.aW none 34 (iP n aA)),(35,.bT 0)] [(0,qy n)] 1,[(4,.jmp 8),(6,.jmp 10),(10,.jmp 12)]⟩,
    ⟨4,#[bH,bH,bH,bH,eG,bH,eG,bH,eG,eG,bH,eG],0,yT n aA [(29,.aW none 34 (iP n aA)),(5,.loc 0 0)] [(0,Pw)] 1,[(4,.jmp 8),(6,.jmp 10),(8,.jmp 11)]⟩,
    ⟨4,#[bH,bH,eG,bH,bH,bH,bH,bH,eG,eG,eG,eG],0,yT n aA [(31,.bT 0),(33,.bT 1)] [(0,qy n),(1,qy n)] 2,[(2,.jmp 5),(8,.jmp 11),(10,.jmp 12)]⟩,
    ⟨4,#[bH,bH,eG,bH,bH,bH,eG,bH,bH,eG,eG,eG],0,yT n aA [(31,.bT 0),(35,.bT 1)] [(0,qy n),(1,qy n)] 2,[(2,.jmp 5),(6,.jmp 10),(10,.jmp 12)]⟩,
    ⟨4,#[bH,bH,eG,bH,bH,bH,eG,bH,eG,eG,bH,eG],0,yT n aA [(31,.bT 0),(5,.loc 1 0)] [(0,qy n),(1,Pw)] 2,[(2,.jmp 5),(6,.jmp 10),(8,.jmp 11)]⟩,
    ⟨4,#[bH,bH,eG,bH,eG,bH,bH,bH,bH,eG,eG,eG],0,yT n aA [(33,.bT 0),(35,.bT 1)] [(0,qy n),(1,qy n)] 2,[(2,.jmp 5),(4,.jmp 8),(10,.jmp 11)]⟩,
    ⟨4,#[bH,bH,eG,bH,eG,bH,bH,bH,eG,eG,bH,eG],0,yT n aA [(33,.bT 0),(5,.loc 1 0)] [(0,qy n),(1,Pw)] 2,[(2,.jmp 5),(4,.jmp 8),(8,.jmp 10)]⟩,
    ⟨4,#[bH,bH,eG,bH,eG,bH,eG,bH,bH,eG,bH,eG],0,yT n aA [(35,.bT 0),(5,.loc 1 0)] [(0,qy n),(1,Pw)] 2,[(2,.jmp 5),(4,.jmp 8),(6,.jmp 9)]⟩,
    ⟨3,#[bH,bH,bH,bH,bH,bH,bH,bH,eG,eG,eG,eG],0,yT n aA [(29,.aW none 34 (iP n aA)),(31,.bT 0),(33,.bT 1)] [(0,qy n),(1,qy n)] 2,[(8,.take 9 (.jmp 9)),(10,.jmp 10)]⟩,
    ⟨3,#[bH,bH,bH,bH,bH,bH,eG,bH,bH,eG,eG,eG],0,yT n aA [(29,.aW none 34 (iP n aA)),(31,.bT 0),(35,.bT 1)] [(0,qy n),(1,qy n)] 2,[(6,.take 9 (.jmp 8)),(10,.jmp 10)]⟩,
    ⟨3,#[bH,bH,bH,bH,bH,bH,eG,bH,eG,eG,bH,eG],0,yT n aA [(29,.aW none 34 (iP n aA)),(31,.bT 0),(5,.loc 1 0)] [(0,qy n),(1,Pw)] 2,[(6,.jmp 8),(8,.jmp 9)]⟩,
    ⟨3,#[bH,bH,bH,bH,eG,bH,bH,bH,bH,eG,eG,eG],0,yT n aA [(29,.aW none 34 (iP n aA)),(33,.bT 0),(35,.bT 1)] [(0,qy n),(1,qy n)] 2,[(4,.take 9 (.jmp 6)),(10,.jmp 9)]⟩,
    ⟨3,#[bH,bH,bH,bH,eG,bH,bH,bH,eG,eG,bH,eG],0,yT n aA [(29,.aW none 34 (iP n aA)),(33,.bT 0),(5,.loc 1 0)] [(0,qy n),(1,Pw)] 2,[(4,.jmp 6),(8,.jmp 8)]⟩,
    ⟨3,#[bH,bH,bH,bH,eG,bH,eG,bH,bH,eG,bH,eG],0,yT n aA [(29,.aW none 34 (iP n aA)),(35,.bT 0),(5,.loc 1 0)] [(0,qy n),(1,Pw)] 2,[(4,.jmp 6),(6,.jmp 7)]⟩,
    ⟨3,#[bH,bH,eG,bH,bH,bH,bH,bH,bH,eG,eG,eG],0,yT n aA [(31,.bT 0),(33,.bT 1),(35,.bT 2)] [(0,qy n),(1,qy n),(2,qy n)] 3,[(2,.take 9 (.jmp 3)),(10,.jmp 7)]⟩,
    ⟨3,#[bH,bH,eG,bH,bH,bH,bH,bH,eG,eG,bH,eG],0,yT n aA [(31,.bT 0),(33,.bT 1),(5,.loc 2 0)] [(0,qy n),(1,qy n),(2,Pw)] 3,[(2,.jmp 3),(8,.jmp 6)]⟩,
    ⟨3,#[bH,bH,eG,bH,bH,bH,eG,bH,bH,eG,bH,eG],0,yT n aA [(31,.bT 0),(35,.bT 1),(5,.loc 2 0)] [(0,qy n),(1,qy n),(2,Pw)] 3,[(2,.jmp 3),(6,.jmp 5)]⟩,
    ⟨3,#[bH,bH,eG,bH,eG,bH,bH,bH,bH,eG,bH,eG],0,yT n aA [(33,.bT 0),(35,.bT 1),(5,.loc 2 0)] [(0,qy n),(1,qy n),(2,Pw)] 3,[(2,.jmp 3),(4,.jmp 4)]⟩,
    ⟨1,#[bH,bH,bH,bH,bH,bH,bH,bH,bH,bH,eG,eG],0,yT n aA [(29,.aW none 34 (iP n aA)),(31,.bT 0),(33,.bT 1),(35,.bT 2),(36,.agg [.aW none 34 (iP n aA),.bT 0,.bT 1,.v (.slice none 0 0),.bT 2,.v (.slice none 0 0)])] [(0,qy n),(1,qy n),(2,qy n)] 3,[(10,.jmp 4)]⟩,
    ⟨2,#[bH,bH,bH,bH,bH,bH,bH,bH,eG,eG,bH,eG],0,yT n aA [(29,.aW none 34 (iP n aA)),(31,.bT 0),(33,.bT 1),(5,.loc 2 0)] [(0,qy n),(1,qy n),(2,Pw)] 3,[(8,.take 9 (.jmp 3))]⟩,
    ⟨2,#[bH,bH,bH,bH,bH,bH,eG,bH,bH,eG,bH,eG],0,yT n aA [(29,.aW none 34 (iP n aA)),(31,.bT 0),(35,.bT 1),(5,.loc 2 0)] [(0,qy n),(1,qy n),(2,Pw)] 3,[(6,.take 9 (.jmp 2))]⟩,
    ⟨2,#[bH,bH,bH,bH,eG,bH,bH,bH,bH,eG,bH,eG],0,yT n aA [(29,.aW none 34 (iP n aA)),(33,.bT 0),(35,.bT 1),(5,.loc 2 0)] [(0,qy n),(1,qy n),(2,Pw)] 3,[(4,.take 9 (.jmp 1))]⟩,
    ⟨2,#[bH,bH,eG,bH,bH,bH,bH,bH,bH,eG,bH,eG],0,yT n aA [(31,.bT 0),(33,.bT 1),(35,.bT 2),(5,.loc 3 0)] [(0,qy n),(1,qy n),(2,qy n),(3,Pw)] 4,[(2,.take 9 (.jmp 0))]⟩,
    ⟨0,#[bH,bH,bH,bH,bH,bH,bH,bH,bH,bH,bH,eG],0,yT n aA [(29,.aW none 34 (iP n aA)),(31,.bT 0),(33,.bT 1),(35,.bT 2),(5,.loc 3 0),(36,.agg [.aW none 34 (iP n aA),.bT 0,.bT 1,.v (.slice none 0 0),.bT 2,.v (.slice none 0 0)])] [(0,qy n),(1,qy n),(2,qy n),(3,Pw)] 4,[(11,.fin)]⟩] (Exists.intro (.take 0 (.take 1 (.take 3 (.take 5 (.take 7 (.jmp 0)))))) (And.intro ?_ ?_)))))
     · repeat' (refine w_ ?_;first|exact trivial|(refine And.intro (by kernel_rfl) (show pG _ _ _ _ _ _ _ from ?_);(refine w_ ?_;repeat' (first|((with_reducible apply And.intro)<;>(first|(with_reducible refine iK ?_;apply rfl)|(with_reducible refine eY ?_;apply rfl)|(refine w_ ?_)))|(with_reducible apply trivial)|apply rfl|apply(Or.inl rfl)|apply(Or.inr rfl)|apply(Or.inr (Or.inl rfl))|apply trivial|(apply And.intro<;>(refine w_ ?_))));done)|(intro bq;cases bq;rotate_left;(focus (intro hbq;exact absurd (hbq rfl) au));intro _)|((fail_if_success (apply Ih));(fail_if_success (apply Fu));apply Or.inl)|(apply F7;exact F8;exact bA)|(apply GK;exact bA)|(apply aP;first|(exact hgo)|(exact hmk)|exact qO|(exact of_decide_eq_true rfl))|((fail_if_success (fail_if_success (apply And.intro)));first|(apply And.intro<;>(intro h;have hc:=h;(try exact vM hc);(try exact vL hc);try simp only [bs]at h))|refine And.intro (by kernel_rfl) ?_|(refine And.intro ?_ ?_;fail_if_success (refine Ob.mk ?_)))|(intro h;(try (unfold und at h;conv at h=>whnf));try simp only [bs]at h)|(apply qB;exact qA)|(apply qD;exact qC))
       all_goals conv=>whnf
     · repeat' (refine w_ ?_;first|exact trivial|(refine And.intro (by kernel_rfl) (show pG _ _ _ _ _ _ _ from ?_);(refine w_ ?_;repeat' (first|((with_reducible apply And.intro)<;>(first|(with_reducible refine iK ?_;apply rfl)|(with_reducible refine eY ?_;apply rfl)|(refine w_ ?_)))|(with_reducible apply trivial)|apply rfl|apply(Or.inl rfl)|apply(Or.inr rfl)|apply(Or.inr (Or.inl rfl))|apply trivial|(apply And.intro<;>(refine w_ ?_))));done)|(intro bq;cases bq;rotate_left;(focus (intro hbq;exact absurd (hbq rfl) au));intro _)|((fail_if_success (apply Ih));(fail_if_success (apply Fu));apply Or.inl)|(apply F7;exact F8;exact bA)|(apply GK;exact bA)|(apply aP;first|(exact hgo)|(exact hmk)|exact qO|(exact of_decide_eq_true rfl))|((fail_if_success (fail_if_success (apply And.intro)));first|(apply And.intro<;>(intro h;have hc:=h;(try exact vM hc);(try exact vL hc);try simp only [bs]at h))|refine And.intro (by kernel_rfl) ?_|(refine And.intro ?_ ?_;fail_if_success (refine Ob.mk ?_)))|(intro h;(try (unfold und at h;conv at h=>whnf));try simp only [bs]at h)|(apply qB;exact qA)|(apply qD;exact qC))
       all_goals conv=>whnf
       refine⟨(),trivial,?_⟩;refine w_ ?_;repeat' (first|((with_reducible apply And.intro)<;>(first|(with_reducible refine iK ?_;apply rfl)|(with_reducible refine eY ?_;apply rfl)|(refine w_ ?_)))|(with_reducible apply trivial)|apply rfl|apply(Or.inl rfl)|apply(Or.inr rfl)|apply(Or.inr (Or.inl rfl))|apply trivial|(apply And.intro<;>(refine w_ ?_)))
   generalize hnx:iP n aA=nx;have hxo:qp nx n.toNat:=by rw [<- hnx];exact Eu hgo
   obtain⟨n,rfl⟩:=cO hn0;rw [bP]at hxo;generalize hRS:kQ n aA=RS
   have hRS2:RS=partsOf n nx:=by
     rw [<- hRS,<- hnx];unfold kQ;rw [hgr];rfl
   generalize hΦ:BJ nx (f0 n) n=Φ
   repeat' (refine jU ?_;first|(intro bq;cases bq;rotate_left;(focus (intro hbq;exact absurd (hbq rfl) au));intro _)|((fail_if_success (apply Ih));(fail_if_success (apply Fu));apply Or.inl)|(apply F7;exact F8;exact bA)|(apply GK;exact bA)|(apply aP;first|exact qO|(exact of_decide_eq_true rfl))|(apply And.intro<;>(intro h;have hc:=h;(try exact vM hc);(try exact vL hc);try simp only [bs]at h))|(intro h;(try (unfold und at h;conv at h=>whnf));try simp only [bs]at h)|(apply qB;exact qA)|(apply qD;exact qC)|refine yF (by assumption) ?_)
   all_goals ((try refine yF (by assumption) ?_);(conv=>whnf))
   refine Or.inr (Or.inr ⟨[(400005,3,0),(600005,33,34)],[38],[],[0,4],[5,6,37],[1,2,3],?_⟩);conv=>whnf
   refine⟨fun(s:Int×Unit) (t:TVf)=>0<=s.1/\s.1<=n/\t.1.1=nx/\fsOf t=BJ nx (f0 n) s.1.toNat,fun(s:Int×Unit) _=>(n-s.1).toNat,?_⟩
   conv=>whnf
   refine eZ.mk ⟨bg,bg,rfl,rfl⟩ bA ?_
   rintro⟨(k:Int),_⟩ ⟨⟨(jw:Li 34),_,_,_,_,_,_⟩,(ix:Li 0),(lw:Li 0),(stk:Li 0),(prt:Li 0),(vB:Li 34),⟨(cnt:Int),_⟩,_⟩ ⟨h0,h1,hN,hS⟩
   try dsimp only at h0 h1 hN
   refine gK fun K0 hK0=>?_
   replace hS:(⟨ix,lw,stk,prt,vB,cnt⟩:FS)=BJ nx (f0 n) k.toNat:=hS;subst hN;obtain⟨k,rfl⟩:=cO h0;rw [bP]at hS;obtain⟨hV,hVn⟩:=PG hxo k au
   rw [<- hS]at hV hVn;have VR:@ln (ah 0) ix=n:=hV.ok.li;have hn2:n<=262144:=by omega
   have hfo:=hV.ok;have hst:=hV.st;have hpl:List.length (α:=List Int) vB<=vis ix:=hV.pl;have oI:(k:Int)<n->0<=(k:Int)/\(k:Int)<(@ln (ah 0) ix:Nat):=fun h=>⟨h0,by rw [VR];exact h⟩
   have hpn:@ln (ah 34) vB<=n:=by
     have e1:vis ix<=@ln (ah 0) ix:=KW ix;have e2:@ln (ah 34) vB<=vis ix:=hpl;omega
   repeat' (refine jU ?_;first|(intro bq;cases bq;rotate_left;(focus (intro hbq;exact absurd (hbq rfl) au));intro _)|((fail_if_success (apply Ih));(fail_if_success (apply Fu));(fail_if_success (apply jR_));apply Or.inl)|(apply F7;exact F8;exact bA)|(apply GK;exact bA)|(apply aP;first|(exact oI au)|exact qO|(exact of_decide_eq_true rfl))|(apply And.intro<;>(intro h;have hc:=h;(try exact vM hc);(try exact vL hc);try simp only [bs]at h))|(intro h;(try (unfold und at h;conv at h=>whnf));try simp only [bs]at h)|(apply qB;exact qA)|(apply qD;exact qC)|refine yF (by assumption) ?_)
   all_goals ((try refine yF (by assumption) ?_);(conv=>whnf))
   · refine Or.inl ?_
     repeat' (refine jU ?_;first|(intro bq;cases bq;rotate_left;(focus (intro hbq;exact absurd (hbq rfl) au));intro _)|((fail_if_success (fail_if_success (apply Or.inl)));refine Or.inl ⟨_,_,_,_,[0,5,6,7,8,9,4],hc_find hn2 hxo hfo hst hpl ⟨h0,au⟩ (by assumption),rfl,rfl,rfl,rfl,rfl,(aK (aK (aK (aK (aK (aK (aK trivial))))))),?_⟩;(rintro _ _ _ ⟨rfl,rfl,rfl⟩;refine aK (aK ?_)))|((fail_if_success (apply Ih));(fail_if_success (apply Fu));apply Or.inl)|(apply F7;exact F8;exact bA)|(apply GK;exact bA)|(apply aP;first|(exact oI au)|exact qO|(exact of_decide_eq_true rfl))|(apply And.intro<;>(intro h;have hc:=h;(try exact vM hc);(try exact vL hc);try simp only [bs]at h))|(intro h;(try (unfold und at h;conv at h=>whnf));try simp only [bs]at h)|(apply qB;exact qA)|(apply qD;exact qC)|refine yF (by assumption) ?_)
     all_goals ((try refine yF (by assumption) ?_);(conv=>whnf))
     · refine⟨bg,bg,rfl,?_⟩
       show qU jw ⟨ix,lw,stk,prt,vB,cnt⟩ (k:Int)=UG jw (BJ jw (f0 n) k) k;rw [<- hS];unfold UG;exact(if_pos (by assumption)).symm
     · refine⟨bg,bg,rfl,?_⟩
       show(⟨ix,lw,stk,prt,vB,cnt⟩:FS)=UG jw (BJ jw (f0 n) k) k;rw [<- hS];unfold UG;exact(if_neg (by assumption)).symm
   have ek:n=k:=by omega
   subst ek;clear oI;have hP:=RQ hxo;rw [<- hS]at hP;have ZU:=hS.trans hΦ;have e1:ix=Φ.index:=congrArg FS.index ZU;have e2:lw=Φ.low:=congrArg FS.low ZU;have e3:stk=Φ.stack:=congrArg FS.stack ZU;have e4:prt=Φ.part:=congrArg FS.part ZU;have e5:vB=Φ.parts:=congrArg FS.parts ZU;subst e1 e2 e3 e4 e5;replace hP:POk n Φ.part Φ.parts:=hP;have hx0:0<=(@ln (ah 34) Φ.parts:Int)+1:=by omega
   have hmX:((@ln (ah 34) Φ.parts:Int)+1)*((24:Nat):Int)<=140737488355328:=by omega
   refine Or.inr (Or.inl ⟨Unit,2,[],[0,5],fun _=>[(8,.bT 10),(9,.wN 11)],fun _=>[(10,.arr 3 none 0 (WH (@ln (ah 34) Φ.parts)).1),(11,.p8 33 3 34 0 (WH (@ln (ah 34) Φ.parts)).2 none)],[],fun _=>True,?_,fun _ _=>?_⟩)
   · repeat' (refine jU ?_;first|(intro bq;cases bq;rotate_left;(focus (intro hbq;exact absurd (hbq rfl) au));intro _)|((fail_if_success (fail_if_success (apply Or.inl)));first|refine Or.inr (Or.inl (Exists.intro [1,0,0,1,2,1,0,0,1,2,1,1] (Exists.intro (.take 0 (.take 5 (.take 1 (.take 2 (.take 3 (.take 6 (.take 7 (.take 8 (.two 4 (.take 10 (.one 9 (.take 11 .done))) 9 (.one 4 (.take 10 (.take 11 .done)))))))))))) (vcP_len (n:=12) rfl (And.intro (by decide +kernel) ?_))))))|((fail_if_success (apply Ih));(fail_if_success (apply Fu));apply Or.inl)|(apply F7;exact F8;exact bA)|(apply GK;exact bA)|(apply aP;first|(exact⟨hx0,rfl,Int.le_trans (Int.mul_le_mul_of_nonneg_left (Int.ofNat_le.2 (by decide)) hx0) hmX⟩)|exact qO|(exact of_decide_eq_true rfl))|((fail_if_success (fail_if_success (apply And.intro)));first|(apply And.intro<;>(intro h;have hc:=h;(try exact vM hc);(try exact vL hc);try simp only [bs]at h))|refine And.intro (by kernel_rfl) ?_|(refine And.intro ?_ ?_;fail_if_success (refine Ob.mk ?_)))|(intro h;(try (unfold und at h;conv at h=>whnf));try simp only [bs]at h)|(apply qB;exact qA)|(apply qD;exact qC)|refine yF (by assumption) ?_)
     all_goals ((try refine yF (by assumption) ?_);(conv=>whnf))
     · refine⟨(),trivial,?_⟩
       exact bA
     · refine⟨(),trivial,?_⟩
       exact bA
   have hta:tot jw<=aA.length:=by rw [<- hnx];exact tot_next _ _
   have hal:aA.length*16<=140737488355328:=by
     have:=hk.2.1.1;exact this
   generalize hPP:@ln (ah 34) Φ.parts=PP at *;have hPn:PP<=n:=by rw [<- hPP];exact hP.pl
   repeat' (refine jU ?_;first|(intro bq;cases bq;rotate_left;(focus (intro hbq;exact absurd (hbq rfl) au));intro _)|((fail_if_success (apply Ih));(fail_if_success (apply Fu));apply Or.inl)|(apply F7;exact F8;exact bA)|(apply GK;exact bA)|(apply aP;first|exact qO|(exact of_decide_eq_true rfl))|(apply And.intro<;>(intro h;have hc:=h;(try exact vM hc);(try exact vL hc);try simp only [bs]at h))|(intro h;(try (unfold und at h;conv at h=>whnf));try simp only [bs]at h)|(apply qB;exact qA)|(apply qD;exact qC)|refine yF (by assumption) ?_)
   all_goals ((try refine yF (by assumption) ?_);(conv=>whnf))
   refine Or.inr (Or.inr ⟨[(9,1,0)],[63],[],[10,11],[5,8,9,61,62],[],?_⟩);conv=>whnf
   refine⟨fun(s:Int×Unit) (t:Li 0×(Li 34×Unit))=>0<=s.1/\s.1<=(@ln (ah 34) jw:Nat)/\(t.1,t.2.1)=UF Φ.part jw (WH PP) s.1.toNat,fun(s:Int×Unit) _=>((@ln (ah 34) jw:Nat)-s.1).toNat,?_⟩
   conv=>whnf
   refine eZ.mk ⟨bg,bg,rfl⟩ bA ?_
   rintro⟨(v:Int),_⟩ ⟨(wt:Li 0),(us:Li 34),_⟩ ⟨f0,f1,fS⟩
   try dsimp only at f0 f1 fS
   refine gK fun K1 hK1=>?_
   obtain⟨v,rfl⟩:=cO f0;rw [bP]at fS;have hnl:@ln (ah 34) jw=n:=hxo.len
   repeat' (refine jU ?_;first|(intro bq;cases bq;rotate_left;(focus (intro hbq;exact absurd (hbq rfl) au));intro _)|((fail_if_success (apply Ih));(fail_if_success (apply Fu));apply Or.inl)|(apply F7;exact F8;exact bA)|(apply GK;exact bA)|(apply aP;first|exact qO|(exact of_decide_eq_true rfl))|(apply And.intro<;>(intro h;have hc:=h;(try exact vM hc);(try exact vL hc);try simp only [bs]at h))|(intro h;(try (unfold und at h;conv at h=>whnf));try simp only [bs]at h)|(apply qB;exact qA)|(apply qD;exact qC)|refine yF (by assumption) ?_)
   all_goals ((try refine yF (by assumption) ?_);(conv=>whnf))
   · have hvn:v<n:=by omega
     have hW:=Ef hxo hP hPP v au
     rw [<- fS]at hW;have hts:tot (jw.take (v+1))=tot (jw.take v)+(aQ jw v).length:=tot_take_s jw v (by show v<@ln (ah 34) jw;omega)
     have htt:tot (jw.take (v+1))<=tot jw:=tot_take _ _;have hpv:=hP.p1 (v:Int) au au
     refine Or.inr (Or.inr ⟨[(9,1,0)],[70],[],[10,11],[5,8,9,10,61,62,63,68,69],[],?_⟩);conv=>whnf
     refine⟨fun(s:Int×Unit) (t:Li 0×(Li 34×Unit))=>0<=s.1/\s.1<=(@ln (ah 0) (aQ jw v):Nat)/\(t.1,t.2.1)=wuR Φ.part (aQ jw v) v (wt,us) s.1.toNat,fun(s:Int×Unit) _=>((@ln (ah 0) (aQ jw v):Nat)-s.1).toNat,?_⟩
     conv=>whnf
     refine eZ.mk ⟨bg,bg,rfl⟩ bA ?_
     rintro⟨(j:Int),_⟩ ⟨(wj:Li 0),(uj:Li 34),_⟩ ⟨d0,d1,dS⟩
     try dsimp only at d0 d1 dS
     refine gK fun K2 hK2=>?_
     obtain⟨j,rfl⟩:=cO d0;rw [bP]at dS;have hWj:WOk PP (tot (jw.take v)+j) (wj,uj):=Eq.mpr (congrArg (WOk PP (tot (jw.take v)+j)) dS) (Pz (n:=n) (row:=aQ jw v) hP hPP hW hvn (hxo.row v) j (by show j<=@ln (ah 0) (aQ jw v);omega))
     have hlw:@ln (ah 0) wj=PP+1:=hWj.lw;have Nb:@ln (ah 34) uj=PP+1:=hWj.lu;have hlp:@ln (ah 0) Φ.part=n:=hP.lp;have hwj:(j:Int)<(@ln (ah 0) (aQ jw v):Nat)->0<=gi (aQ jw v) j/\gi (aQ jw v) j<n:=fun h=>hxo.row v _ (ny (l:=aQ jw v) (k:=(j:Int)) (by show j<@ln (ah 0) (aQ jw v);omega))
     have o1:0<=(v:Int)/\(v:Int)<(@ln (ah 0) Φ.part:Nat):=by omega
     have o2:(j:Int)<(@ln (ah 0) (aQ jw v):Nat)->0<=gi (aQ jw v) j/\gi (aQ jw v) j<(@ln (ah 0) Φ.part:Nat):=fun h=>by rw [hlp];exact hwj h
     have hq:(j:Int)<(@ln (ah 0) (aQ jw v):Nat)->1<=gi Φ.part (gi (aQ jw v) j)/\gi Φ.part (gi (aQ jw v) j)<=PP:=fun h=>by have:=hP.p1 _ (hwj h).1 (hwj h).2;rw [<- hPP];exact this
     have hpv2:1<=gi Φ.part v/\gi Φ.part v<=PP:=by rw [<- hPP];exact hpv
     have o3:0<=gi Φ.part v/\gi Φ.part v<(@ln (ah 0) wj:Nat):=by rw [hlw];omega
     have o4:(j:Int)<(@ln (ah 0) (aQ jw v):Nat)->0<=gi Φ.part (gi (aQ jw v) j)/\gi Φ.part (gi (aQ jw v) j)<(@ln (ah 34) uj:Nat):=fun h=>by have:=hq h;rw [Nb];omega
     have hwb:0<=gi wj (gi Φ.part v)/\gi wj (gi Φ.part v)<=(tot (jw.take v)+j:Nat):=hWj.w (gi Φ.part v);have hub:@ln (ah 0) (aQ uj (gi Φ.part (gi (aQ jw v) j)).toNat)<=tot (jw.take v)+j:=hWj.ul _;have hlr:@ln (ah 0) (aQ jw v)=List.length (α:=Int) (aQ jw v):=rfl;have o5:(@ln (ah 0) (aQ uj (gi Φ.part (gi (aQ jw v) j)).toNat)+1)*8<=140737488355328:=by omega
     have hmu:(j:Int)<(@ln (ah 0) (aQ jw v):Nat)->((@ln (ah 0) (aQ jw v):Int)-((j:Int)+1)).toNat<((@ln (ah 0) (aQ jw v):Int)-(j:Int)).toNat:=fun h=>by omega
     have hw1:IntKind.i64.wrap (gi wj (gi Φ.part v)+1)=gi wj (gi Φ.part v)+1:=kZ (by exact⟨au,au⟩)
     have hl1:@ln (ah 0) (gt 34 jw (v:Int).toNat)=@ln (ah 0) (aQ jw v):=rfl;have hl2:gt 0 wj (gt 0 Φ.part (v:Int).toNat).toNat=gi wj (gi Φ.part v):=rfl;have o6:lC (gi wj (gi Φ.part v)+1):=⟨au,au⟩
     by_cases hjl:(j:Int)<(@ln (ah 0) (aQ jw v):Nat)
     · have p2:=o2 hjl
       have p4:=o4 hjl;have pm:=hmu hjl
       repeat' (refine jU ?_;first|(intro bq;cases bq;rotate_left;(focus (intro hbq;exact absurd (hbq rfl) au));intro _)|((fail_if_success (fail_if_success (apply Exists.intro)));refine Exists.intro _ (And.intro hw1 ?_))|((fail_if_success (fail_if_success (apply KF.mk)));refine KF.mk ?_ (pm) bA)|((fail_if_success (apply Ih));(fail_if_success (apply Fu));apply Or.inl)|(apply F7;exact F8;exact bA)|(apply GK;exact bA)|((fail_if_success (fail_if_success (apply Exists.intro)));first|(refine ⟨[1,0,1,1,0,1,0,1,1,0,1,1],[0,2,5,7,1,3,4,10,6,8,9,11],(LV (n:=12) rfl (by decide +kernel)),?_⟩;(conv=>whnf);(fail_if_success (apply fa_))))|(apply aP;first|(exact o1)|(exact p2)|(exact o3)|(exact p4)|(exact o5)|(exact o6)|exact qO|(exact of_decide_eq_true rfl))|(apply And.intro<;>(intro h;have hc:=h;(try exact vM hc);(try exact vL hc);try simp only [bs]at h))|(intro h;(try (unfold und at h;conv at h=>whnf));try simp only [bs]at h)|(apply qB;exact qA)|(apply qD;exact qC)|refine yF (by assumption) ?_)
       all_goals ((try refine yF (by assumption) ?_);(conv=>whnf))
       all_goals first
        |(
           refine⟨bg,by show(j:Int)+1<=(@ln (ah 0) (aQ jw v):Nat);omega,?_⟩
           show _=wuI Φ.part (aQ jw v) v (wuR Φ.part (aQ jw v) v (wt,us) j) j;rw [<- dS];unfold wuI
           first|exact(if_neg (by assumption)).symm|exact(if_pos (by assumption)).symm)
        |exact absurd hjl (by assumption)
     · repeat' (refine jU ?_;first|(intro bq;cases bq;rotate_left;(focus (intro hbq;exact absurd (hbq rfl) au));intro _)|((fail_if_success (apply Ih));(fail_if_success (apply Fu));apply Or.inl)|(apply F7;exact F8;exact bA)|(apply GK;exact bA)|((fail_if_success (fail_if_success (apply Exists.intro)));first|(refine ⟨[1,0,1,1,0,1,0,1,1,0,1,1],[0,2,5,7,1,3,4,10,6,8,9,11],(LV (n:=12) rfl (by decide +kernel)),?_⟩;(conv=>whnf);(fail_if_success (apply fa_))))|(apply aP;first|exact qO|(exact of_decide_eq_true rfl))|(apply And.intro<;>(intro h;have hc:=h;(try exact vM hc);(try exact vL hc);try simp only [bs]at h))|(intro h;(try (unfold und at h;conv at h=>whnf));try simp only [bs]at h)|(apply qB;exact qA)|(apply qD;exact qC)|refine yF (by assumption) ?_)
       all_goals ((try refine yF (by assumption) ?_);(conv=>whnf))
       all_goals first
        |(
           have ej:@ln (ah 0) (aQ jw v)=j:=by omega
           refine⟨bg,bg,?_⟩
           show(wj,uj)=wuR Φ.part (aQ jw v) v (UF Φ.part jw (WH PP) v) (@ln (ah 0) (aQ jw v));rw [ej,<- fS]
           exact dS)
        |omega
        |exact absurd (show(j:Int)<(@ln (ah 0) (aQ jw v):Nat)from h) hjl
   have ev:n=v:=by omega
   subst ev;have hW:=Ef hxo hP hPP n (Nat.le_refl n);rw [<- fS]at hW;have hlw:@ln (ah 0) wt=PP+1:=hW.lw;have Nb:@ln (ah 34) us=PP+1:=hW.lu;have hlps:@ln (ah 34) Φ.parts=PP:=hPP
   repeat' (refine jU ?_;first|(intro bq;cases bq;rotate_left;(focus (intro hbq;exact absurd (hbq rfl) au));intro _)|((fail_if_success (apply Ih));(fail_if_success (apply Fu));apply Or.inl)|(apply F7;exact F8;exact bA)|(apply GK;exact bA)|(apply aP;first|exact qO|(exact of_decide_eq_true rfl))|(apply And.intro<;>(intro h;have hc:=h;(try exact vM hc);(try exact vL hc);try simp only [bs]at h))|(intro h;(try (unfold und at h;conv at h=>whnf));try simp only [bs]at h)|(apply qB;exact qA)|(apply qD;exact qC)|refine yF (by assumption) ?_)
   all_goals ((try refine yF (by assumption) ?_);(conv=>whnf))
   refine Or.inr (Or.inr ⟨[],[111],[],[13],[5,8,9,16,109,110],[12],?_⟩);conv=>whnf
   refine⟨fun(s:Int×Unit) (t:(Unit×Unit)×(Li 34×Unit))=>0<=s.1/\s.1<=PP/\t.2.1=IY wt Φ.parts s.1.toNat,fun(s:Int×Unit) _=>(PP-s.1).toNat,?_⟩
   conv=>whnf
   refine eZ.mk ⟨bg,bg,rfl⟩ bA ?_
   rintro⟨(k:Int),_⟩ ⟨⟨_,_⟩,(hq:Li 34),_⟩ ⟨g0,g1,gS⟩
   try dsimp only at g0 g1 gS
   refine gK fun K3 hK3=>?_
   obtain⟨k,rfl⟩:=cO g0;rw [bP]at gS;have EB:@ln (ah 34) hq<=k:=by rw [gS];exact Sw wt Φ.parts k
   have hqm:∀ r∈hq,r∈Φ.parts:=by rw [gS];exact LK wt Φ.parts k (by show k<=@ln (ah 34) Φ.parts;omega)
   have hqN:NE hq:=Ae.2 fun r hr=>(hP.pn r (hqm r hr)).1
   by_cases hkP:k<PP
   · have hdk:decide ((k:Int)<(@ln (ah 34) Φ.parts:Nat))=true:=decide_eq_true au
     have hb1:@ln (ah 34) hq<=262143:=by omega
     have hxp:0<@ln (ah 0) (gt 34 Φ.parts (k:Int).toNat):=List.length_pos_iff.2 (hP.pn _ (mo (l:=Φ.parts) (i:=k) (by show k<@ln (ah 34) Φ.parts;omega))).1
     have ow:0<=(k:Int)+1/\(k:Int)+1<(@ln (ah 0) wt:Nat):=by omega
     repeat' (refine jU ?_;first|(intro bq;cases bq;rotate_left;(focus (intro hbq;exact absurd (hbq rfl) au));intro _)|((fail_if_success (fail_if_success (apply Or.inl)));refine Or.inl ⟨_,_,_,_,[13,14],OB hb1 hqN hxp,rfl,rfl,rfl,rfl,rfl,(aK (aK trivial)),?_⟩;(rintro _ _ _ ⟨rfl,rfl,rfl⟩;refine aK (aK ?_)))|((fail_if_success (apply Ih));(fail_if_success (apply Fu));apply Or.inl)|(apply F7;exact F8;exact bA)|(apply GK;exact bA)|(apply aP;first|(exact ow)|exact qO|(exact of_decide_eq_true rfl))|(apply And.intro<;>(intro h;have hc:=h;(try exact vM hc);(try exact vL hc);(try exact Vr hc);(try exact Vq hc);try simp only [bs]at h))|(intro h;(try (unfold und at h;conv at h=>whnf));try simp only [bs]at h)|(apply qB;exact qA)|(apply qD;exact qC)|refine yF (by assumption) ?_)
     all_goals ((try refine yF (by assumption) ?_);(conv=>whnf))
     · refine⟨bg,bg,?_⟩
       show sZ hq (aQ Φ.parts k)=IY wt Φ.parts (k+1);exact(congrArg (fun h=>sZ h (aQ Φ.parts k)) gS).trans (rdS_s1 (by assumption)).symm
     · refine⟨bg,bg,?_⟩
       show hq=IY wt Φ.parts (k+1);exact gS.trans (rdS_s0 (by assumption)).symm
   have hdk:decide ((k:Int)<(@ln (ah 34) Φ.parts:Nat))=false:=decide_eq_false au
   repeat' (refine jU ?_;first|(intro bq;cases bq;rotate_left;(focus (intro hbq;exact absurd (hbq rfl) au));intro _)|((fail_if_success (apply Ih));(fail_if_success (apply Fu));apply Or.inl)|(apply F7;exact F8;exact bA)|(apply GK;exact bA)|(apply aP;first|exact qO|(exact of_decide_eq_true rfl))|(apply And.intro<;>(intro h;have hc:=h;(try exact vM hc);(try exact vL hc);(try exact Vr hc);(try exact Vq hc);try simp only [bs]at h))|(intro h;(try (unfold und at h;conv at h=>whnf));try simp only [bs]at h)|(apply qB;exact qA)|(apply qD;exact qC)|refine yF (by assumption) ?_)
   all_goals ((try refine yF (by assumption) ?_);(conv=>whnf))
   have ek:k=PP:=by omega
   rw [ek]at gS;have hta2:tot (jw.take n)<=aA.length:=Nat.le_trans (tot_take _ _) hta;generalize hTT:tot (jw.take n)=TT at *;have hnu:rH (hq,wt)<=PP:=by rw [gS];exact rd_nu hW.lw hW.w0
   have hPT:PP*TT<=2305843009213693952:=Nat.le_trans (Nat.mul_le_mul (show PP<=262144 by omega) (show TT<=8796093022208 by omega)) (by decide)
   obtain⟨F,hF0⟩:∃ F,Na Φ.part Φ.parts us (rH (hq,wt)) ⟨hq,wt,[]⟩=F:=⟨_,rfl⟩
   have hFR:F.out=RS:=by
     have hPP':(Φ.parts:Rows).length=PP:=hPP;rw [hRS2];unfold partsOf;rw [hΦ];show _=(Na Φ.part Φ.parts (UF Φ.part jw (WH (Φ.parts:Rows).length) n).2 (rH (IY (UF Φ.part jw (WH (Φ.parts:Rows).length) n).1 Φ.parts (Φ.parts:Rows).length,(UF Φ.part jw (WH (Φ.parts:Rows).length) n).1)) ⟨IY (UF Φ.part jw (WH (Φ.parts:Rows).length) n).1 Φ.parts (Φ.parts:Rows).length,(UF Φ.part jw (WH (Φ.parts:Rows).length) n).1,[]⟩).out;rw [hPP',<- fS,<- hF0,gS]
   have hwp:∀ p,0<=gi wt p/\gi wt p<=TT:=hW.w;have hT0:TOk Φ.part Φ.parts us PP PP TT F ⟨hq,wt,[]⟩:=⟨⟨hW.lw,fun p=>by have:=hwp p;show -((_:Nat):Int)<=gi wt p;omega,fun p=>by have:=hwp p;show gi wt p<=_;omega,hqm⟩,hnu,by show 0+rH (hq,wt)<=PP;rw [Nat.zero_add];exact hnu,hF0⟩
   refine Or.inr (Or.inr ⟨[(19,33,34),(9,0,0)],[19,9],[],[13,10],[5,8,16],[14,11],?_⟩);conv=>whnf
   refine⟨fun(s:Unit×Li 34×Unit) (t:Li 34×((Unit×Unit)×(Li 34×(Li 0×Unit))))=>s.2.1=us/\TOk Φ.part Φ.parts us PP PP TT F ⟨t.2.2.1,t.2.2.2.1,t.1⟩,fun(s:Unit×Li 34×Unit) t=>rH (t.2.2.1,t.2.2.2.1),?_⟩
   conv=>whnf
   refine eZ.mk ⟨rfl,hT0⟩ bA ?_;rintro⟨_,kJ,_⟩ ⟨(ot:Li 34),⟨_,_⟩,(hh:Li 34),(wj:Li 0),_⟩ ⟨hus,hT1⟩;refine gK fun K4 hK4=>?_
   replace hus:kJ=us:=hus;rw [<- hus]at hT1 hW Nb;replace hT1:TOk Φ.part Φ.parts kJ PP PP TT F ⟨hh,wj,ot⟩:=hT1;have hWu:∀ q:Nat,∀ p∈aQ kJ q,1<=p/\p<=PP:=hW.u;have hnuT:rH (hh,wj)<=PP:=hT1.nu;have hhl:@ln (ah 34) hh<=rH (hh,wj):=Nat.le_add_left _ _;have hol:@ln (ah 34) ot+rH (hh,wj)<=PP:=hT1.ol;have hme:∀ r∈hh,r∈Φ.parts:=hT1.lok.me;have WO:∀ q:Nat,(aQ kJ q).length<=TT:=hW.ul;have hhN:NE hh:=Ae.2 fun r hr=>(hP.pn r (hme r hr)).1
   by_cases hh0:0<@ln (ah 34) hh
   · have hd4:decide ((0:Int)<(@ln (ah 34) hh:Nat))=true:=decide_eq_true au
     have hhb:@ln (ah 34) hh<=262144:=by omega
     obtain⟨p1,p2,p3⟩:=Eo hT1.lok hh0;have hX:=hP.pn _ p3;have hX0:0<@ln (ah 0) (yM hh):=List.length_pos_iff.2 hX.1;have hXr:0<=gi (yM hh) 0/\gi (yM hh) 0<n:=hX.2 _ (ny (l:=yM hh) (k:=0) (by exact hX0))
     have hlp:@ln (ah 0) Φ.part=n:=hP.lp;have hpX:=hP.p1 _ hXr.1 hXr.2;have o0:0<=(0:Int)/\(0:Int)<(@ln (ah 0) (yM hh):Nat):=by omega
     have o1:0<=gi (yM hh) 0/\gi (yM hh) 0<(@ln (ah 0) Φ.part:Nat):=by omega
     have hlps2:((Φ.parts:Rows).length:Int)=PP:=by exact congrArg Int.ofNat hlps
     have o2:0<=gi Φ.part (gi (yM hh) 0)/\gi Φ.part (gi (yM hh) 0)<(@ln (ah 34) kJ:Nat):=by omega
     have o3:(@ln (ah 34) ot+1)*24<=140737488355328:=by omega
     repeat' (refine jU ?_;first|(intro bq;cases bq;rotate_left;(focus (intro hbq;exact absurd (hbq rfl) au));intro _)|((fail_if_success (fail_if_success (apply Or.inl)));refine Or.inl ⟨_,_,_,_,[13,16],Z5 hh0 hhb hhN,rfl,rfl,rfl,rfl,rfl,(aK (aK trivial)),?_⟩;(rintro _ _ _ ⟨rfl,rfl,rfl⟩;refine aK (aK ?_)))|((fail_if_success (apply Ih));(fail_if_success (apply Fu));apply Or.inl)|(apply F7;exact F8;exact bA)|(apply GK;exact bA)|((fail_if_success (fail_if_success (apply Exists.intro)));first|(refine ⟨[1,1,0,1,1,0,1,0,1,0,0,1],[0,1,3,4,11,2,5,6,7,8,9,10],(LV (n:=12) rfl (by decide +kernel)),?_⟩;(conv=>whnf);(fail_if_success (apply fa_))))|(apply aP;first|(exact o0)|(exact o1)|(exact o2)|(exact o3)|exact qO|(exact of_decide_eq_true rfl))|(apply And.intro<;>(intro h;have hc:=h;(try exact vM hc);(try exact vL hc);(try exact Vr hc);(try exact Vq hc);try simp only [bs]at h))|(intro h;(try (unfold und at h;conv at h=>whnf));try simp only [bs]at h)|(apply qB;exact qA)|(apply qD;exact qC)|refine yF (by assumption) ?_)
     all_goals ((try refine yF (by assumption) ?_);(conv=>whnf))
     refine Or.inr (Or.inr ⟨[],[148],[],[13,10],[5,8,9,16,19,146,147],[17],?_⟩);conv=>whnf
     refine⟨fun(s:Int×Unit) (t:(Unit×Unit)×(Li 34×(Li 0×Unit)))=>0<=s.1/\s.1<=(@ln (ah 0) (gM kJ Φ.part hh):Nat)/\(t.2.1,t.2.2.1)=WM Φ.parts (gM kJ Φ.part hh) ((qM hh).take (hh.length-1),wj) s.1.toNat,fun(s:Int×Unit) _=>((@ln (ah 0) (gM kJ Φ.part hh):Nat)-s.1).toNat,?_⟩
     conv=>whnf
     refine eZ.mk ⟨bg,bg,rfl⟩ bA ?_
     rintro⟨(j:Int),_⟩ ⟨⟨_,_⟩,(h5:Li 34),(w5:Li 0),_⟩ ⟨b0,b1,bS⟩
     try dsimp only at b0 b1 bS
     refine gK fun K5 hK5=>?_
     obtain⟨j,rfl⟩:=cO b0;rw [bP]at bS;obtain⟨m1,m2⟩:=hT1.mid hP hlps hWu WO hh0 (k:=j) (by show j<=@ln (ah 0) (gM kJ Φ.part hh);omega)
     replace m1:Pf PP Φ.parts (PP*TT) (WM Φ.parts (gM kJ Φ.part hh) ((qM hh).take (hh.length-1),wj) j):=m1;replace m2:rH (WM Φ.parts (gM kJ Φ.part hh) ((qM hh).take (hh.length-1),wj) j)+1<=PP:=m2;rw [<- bS]at m1 m2;have hw5:@ln (ah 0) w5=PP+1:=m1.lw;have h5l:@ln (ah 34) h5<=rH (h5,w5):=Nat.le_add_left _ _;have h5N:NE h5:=Ae.2 fun r hr=>(hP.pn r (m1.me r hr)).1
     by_cases hjl:(j:Int)<(@ln (ah 0) (gM kJ Φ.part hh):Nat)
     · have hd5:decide ((j:Int)<(@ln (ah 0) (gM kJ Φ.part hh):Nat))=true:=decide_eq_true hjl
       have hpj:1<=gi (gM kJ Φ.part hh) j/\gi (gM kJ Φ.part hh) j<=PP:=hWu _ _ (ny (l:=gM kJ Φ.part hh) (k:=(j:Int)) (by show j<@ln (ah 0) (gM kJ Φ.part hh);omega))
       have hlo:-((PP*TT:Nat):Int)<=gi w5 (gi (gM kJ Φ.part hh) j):=m1.lo _;have hhi:gi w5 (gi (gM kJ Φ.part hh) j)<=4611686018427387904:=m1.hi _;have q1:0<=gi (gM kJ Φ.part hh) j/\gi (gM kJ Φ.part hh) j<(@ln (ah 0) w5:Nat):=by omega
       have q2:∀ (k:Nat) (x:ah 0),0<=gi (gM kJ Φ.part hh) j/\gi (gM kJ Φ.part hh) j<(@ln (ah 0) (List.set (α:=ah 0) w5 k x):Nat):=fun k x=>by rw [@List.length_set (ah 0) w5 k x];exact q1
       have q3:0<=gi (gM kJ Φ.part hh) j-1/\gi (gM kJ Φ.part hh) j-1<(@ln (ah 34) Φ.parts:Nat):=by omega
       have q4:lC (gi w5 (gi (gM kJ Φ.part hh) j)-1):=⟨au,au⟩
       have q5:IntKind.i64.wrap (gi w5 (gi (gM kJ Φ.part hh) j)-1)=gi w5 (gi (gM kJ Φ.part hh) j)-1:=kZ (by exact q4)
       have q6:IntKind.i64.wrap (gi (gM kJ Φ.part hh) j-1)=gi (gM kJ Φ.part hh) j-1:=kZ (by exact⟨au,au⟩)
       obtain⟨l1,l2⟩:=Zi (row:=gM kJ Φ.part hh) (k:=j) hlps m1 hpj
       have q7:gi (w5.set (gi (gM kJ Φ.part hh) j).toNat (gi w5 (gi (gM kJ Φ.part hh) j)-1)) (gi (gM kJ Φ.part hh) j)=0->@ln (ah 34) h5<=262143:=fun h=>by
         have e:(lsI Φ.parts (gM kJ Φ.part hh) (h5,w5) j).1=sZ h5 (aQ Φ.parts (gi (gM kJ Φ.part hh) j-1).toNat):=if_pos h;have e2:(lsI Φ.parts (gM kJ Φ.part hh) (h5,w5) j).1.length<=rH (lsI Φ.parts (gM kJ Φ.part hh) (h5,w5) j):=Nat.le_add_left _ _;have e4:(sZ h5 (aQ Φ.parts (gi (gM kJ Φ.part hh) j-1).toNat)).length=(h5:Rows).length+1:=(qx _ _).1
         have e5:(h5:Rows).length+1<=PP:=by
           rw [<- e4,<- e];exact Nat.le_trans e2 (Nat.le_trans l2 au)
         exact Nat.le_of_succ_le_succ (Nat.le_trans e5 au)
       have q8:0<@ln (ah 0) (aQ Φ.parts (gi (gM kJ Φ.part hh) j-1).toNat):=List.length_pos_iff.2 (hP.pn _ (mo (l:=Φ.parts) (i:=(gi (gM kJ Φ.part hh) j-1).toNat) (by show _<@ln (ah 34) Φ.parts;omega))).1
       have pm:((@ln (ah 0) (gM kJ Φ.part hh):Nat)-((j:Int)+1)).toNat<((@ln (ah 0) (gM kJ Φ.part hh):Nat)-(j:Int)).toNat:=by omega
       repeat' (refine jU ?_;first|(intro bq;cases bq;rotate_left;(focus (intro hbq;exact absurd (hbq rfl) au));intro _)|((fail_if_success (fail_if_success (apply Exists.intro)));refine Exists.intro _ (And.intro q5 ?_))|((fail_if_success (fail_if_success (apply Exists.intro)));refine Exists.intro _ (And.intro q6 ?_))|((fail_if_success (fail_if_success (apply KF.mk)));refine KF.mk ?_ (pm) bA)|((fail_if_success (fail_if_success (apply Or.inl)));refine Or.inl ⟨_,_,_,_,[13,20],OB (q7 (by assumption)) h5N q8,rfl,rfl,rfl,rfl,rfl,(aK (aK trivial)),?_⟩;(rintro _ _ _ ⟨rfl,rfl,rfl⟩;refine aK (aK ?_)))|((fail_if_success (apply Ih));(fail_if_success (apply Fu));apply Or.inl)|(apply F7;exact F8;exact bA)|(apply GK;exact bA)|(apply aP;first|(exact q1)|(exact q2 _ _)|(exact q3)|(exact q4)|exact qO|(exact of_decide_eq_true rfl))|(apply And.intro<;>(intro h;have hc:=h;(try exact vM hc);(try exact vL hc);(try exact Vr hc);(try exact Vq hc);try simp only [bs]at h))|(intro h;(try (unfold und at h;conv at h=>whnf));try simp only [bs]at h)|(apply qB;exact qA)|(apply qD;exact qC)|refine yF (by assumption) ?_)
       all_goals ((try refine yF (by assumption) ?_);(conv=>whnf))
       · refine⟨bg,by show(j:Int)+1<=(@ln (ah 0) (gM kJ Φ.part hh):Nat);omega,?_⟩
         show _=lsI Φ.parts (gM kJ Φ.part hh) (WM Φ.parts (gM kJ Φ.part hh) ((qM hh).take (hh.length-1),wj) j) j;rw [<- bS];unfold lsI;exact congrArg (fun h=>(h,_)) (if_pos (by assumption)).symm
       · refine⟨bg,by show(j:Int)+1<=(@ln (ah 0) (gM kJ Φ.part hh):Nat);omega,?_⟩
         show _=lsI Φ.parts (gM kJ Φ.part hh) (WM Φ.parts (gM kJ Φ.part hh) ((qM hh).take (hh.length-1),wj) j) j;rw [<- bS];unfold lsI;exact congrArg (fun h=>(h,_)) (if_neg (by assumption)).symm
     · have hd5:decide ((j:Int)<(@ln (ah 0) (gM kJ Φ.part hh):Nat))=false:=decide_eq_false hjl
       have ej:j=(gM kJ Φ.part hh).length:=by
         show j=@ln (ah 0) (gM kJ Φ.part hh);omega
       rw [ej]at bS;obtain⟨t1,t2⟩:=hT1.next hP hlps hWu WO hh0;have eh:h5=(QH Φ.part Φ.parts kJ ⟨hh,wj,ot⟩).h:=congrArg Prod.fst bS;have ew:w5=(QH Φ.part Φ.parts kJ ⟨hh,wj,ot⟩).W:=congrArg Prod.snd bS;have t3:TOk Φ.part Φ.parts kJ PP PP TT F ⟨h5,w5,@HAppend.hAppend (List (List Int)) (List (List Int)) (List (List Int)) _ ot [yM hh]⟩:=by rw [eh,ew];exact t1
       have t4:rH (h5,w5)<rH (hh,wj):=by rw [eh,ew];exact t2
       rw [hus]at t3
       repeat' (refine jU ?_;first|(intro bq;cases bq;rotate_left;(focus (intro hbq;exact absurd (hbq rfl) au));intro _)|((fail_if_success (apply Ih));(fail_if_success (apply Fu));apply Or.inl)|(apply F7;exact F8;exact bA)|(apply GK;exact bA)|(apply aP;first|exact qO|(exact of_decide_eq_true rfl))|(apply And.intro<;>(intro h;have hc:=h;(try exact vM hc);(try exact vL hc);(try exact Vr hc);(try exact Vq hc);try simp only [bs]at h))|(intro h;(try (unfold und at h;conv at h=>whnf));try simp only [bs]at h)|(apply qB;exact qA)|(apply qD;exact qC)|refine yF (by assumption) ?_)
       all_goals ((try refine yF (by assumption) ?_);(conv=>whnf))
       exact⟨hus,t3⟩
   have hd4:decide ((0:Int)<(@ln (ah 34) hh:Nat))=false:=decide_eq_false au
   repeat' (refine jU ?_;first|(intro bq;cases bq;rotate_left;(focus (intro hbq;exact absurd (hbq rfl) au));intro _)|((fail_if_success (apply Ih));(fail_if_success (apply Fu));apply Or.inl)|(apply F7;exact F8;exact bA)|(apply GK;exact bA)|(apply aP;first|exact qO|(exact of_decide_eq_true rfl))|(apply And.intro<;>(intro h;have hc:=h;(try exact vM hc);(try exact vL hc);(try exact Vr hc);(try exact Vq hc);try simp only [bs]at h))|(intro h;(try (unfold und at h;conv at h=>whnf));try simp only [bs]at h)|(apply qB;exact qA)|(apply qD;exact qC)|refine yF (by assumption) ?_)
   all_goals ((try refine yF (by assumption) ?_);(conv=>whnf))
   have hout:=hT1.done hh0;exact⟨Or.inl rfl,pO (hout.trans hFR)⟩
)
end Go.SX
