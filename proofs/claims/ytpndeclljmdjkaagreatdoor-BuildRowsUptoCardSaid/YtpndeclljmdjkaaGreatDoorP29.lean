/- A part of the proof (texts GLoop, B60, B62, B63, B78). -/
import Derived.Test.YtpndeclljmdjkaaGreatDoorP08
import Derived.Test.YtpndeclljmdjkaaGreatDoorP10
import Derived.Test.YtpndeclljmdjkaaGreatDoorP12
import Derived.Test.YtpndeclljmdjkaaGreatDoorP18
import Derived.Test.YtpndeclljmdjkaaGreatDoorP26
import Derived.Test.YtpndeclljmdjkaaGreatDoorP27
import Derived.Test.YtpndeclljmdjkaaGreatDoorP28
set_option linter.all false
set_option maxRecDepth 100000
namespace Go.SX
open Int renaming toNat_natCast -> bP
open List renaming length -> ln
open Go.XK Go.RowKit
noncomputable section
theorem Tj {n P:Nat} {part:List Int} {parts U:Rows} (hp:POk n part parts) (hP:parts.length=P) (hu:∀ q:Nat,∀ p∈aQ U q,1<=p/\p<=P):∀ (m:Nat) {s:TS} {d:Nat},Pf P parts d (s.h,s.W)->(∀ r∈s.out,r∈parts)->∀ r∈(Na part parts U m s).out,r∈parts
 |0,_,_,_,ho=>ho
 |m+1,s,d,h,ho=>by
   rw [Na];split
   ·rename_i h0;refine Tj hp hP hu m (Ml hp hP hu h h0).1 fun r hr=>?_
    have hr:r∈s.out++[yM s.h]:=hr;rcases List.mem_append.1 hr with hr|hr
    ·exact ho r hr
    ·rw [List.mem_singleton.1 hr];exact(Eo h h0).2.2
   ·exact ho
theorem NR {n:Nat} {nx:Rows} (hx:qp nx n) (ht:tot nx<=4611686018427387904):∀ r∈partsOf n nx,r≠[]/\∀ w∈r,0<=w/\w<n:=by
 have hP:=RQ hx;intro r hr;unfold partsOf at hr;dsimp only at hr;refine hP.pn r ?_;have hW:=Ef hx hP rfl n (Nat.le_refl n);have htt:tot (nx.take n)<=tot nx:=tot_take _ _;exact Tj hP rfl hW.u _ (d:=0) ⟨hW.lw,fun p=>by have:=hW.w p;show -((0:Nat):Int)<=gi (UF _ _ _ _).1 p;omega,fun p=>by have:=hW.w p;show gi (UF _ _ _ _).1 p<=_;omega,LK _ _ _ (Nat.le_refl _)⟩ (fun r hr=>absurd hr (List.not_mem_nil)) r hr
def NQ (parts:Rows) (n:Int):Nat->Int
 |0=>n
 |k+1=>if(1:Int)<((aQ parts k).length:Nat)then min (NQ parts n k) (gi (aQ parts k) 0)else NQ parts n k
theorem plA_s1 {parts:Rows} {n:Int} {k:Nat} (h:(1:Int)<((aQ parts k).length:Nat)):NQ parts n (k+1)=min (NQ parts n k) (gi (aQ parts k) 0):=by rw [NQ,if_pos h]
theorem plA_s0 {parts:Rows} {n:Int} {k:Nat} (h:¬ (1:Int)<((aQ parts k).length:Nat)):NQ parts n (k+1)=NQ parts n k:=by rw [NQ,if_neg h]
def KE (aA:List kX) (l0:Int):Nat->Int
 |0=>l0
 |k+1=>if(kW aA k).From=(kW aA k).To then min (KE aA l0 k) (kW aA k).From else KE aA l0 k
theorem alA_s1 {aA:List kX} {l0:Int} {k:Nat} (h:(kW aA k).From=(kW aA k).To):KE aA l0 (k+1)=min (KE aA l0 k) (kW aA k).From:=by rw [KE,if_pos h]
theorem alA_s0 {aA:List kX} {l0:Int} {k:Nat} (h:¬ (kW aA k).From=(kW aA k).To):KE aA l0 (k+1)=KE aA l0 k:=by rw [KE,if_neg h]
def bsC (way best:List Int):Bool:=!isE way&&(isE best||decide ((way.length:Int)<best.length)||decide ((way.length:Int)=best.length)&&decide (cmpL way best<0))
def Nf (b:List Int) (least:Int) (aA:List kX):Nat->List Int
 |0=>[]
 |k+1=>if(kW aA k).To=least then(if bsC (uw b (kW aA k).From) (Nf b least aA k)=true then uw b (kW aA k).From else Nf b least aA k)else Nf b least aA k
theorem beB_0 {b:List Int} {least:Int} {aA:List kX} {k:Nat} (h:¬ (kW aA k).To=least):Nf b least aA (k+1)=Nf b least aA k:=by rw [Nf,if_neg h]
theorem beB_1 {b:List Int} {least:Int} {aA:List kX} {k:Nat} (h:(kW aA k).To=least) (h2:bsC (uw b (kW aA k).From) (Nf b least aA k)=true):Nf b least aA (k+1)=uw b (kW aA k).From:=by rw [Nf,if_pos h,if_pos h2]
theorem beB_2 {b:List Int} {least:Int} {aA:List kX} {k:Nat} (h:(kW aA k).To=least) (h2:bsC (uw b (kW aA k).From) (Nf b least aA k)=false):Nf b least aA (k+1)=Nf b least aA k:=by rw [Nf,if_pos h,h2];rfl
def cyc0 (n:Int) (aA:List kX):Int:=KE aA (NQ (kQ n aA) n (kQ n aA).length) aA.length
def cycS (n:Int) (aA:List kX):List Int :=
 bif pK n aA then(if cyc0 n aA=n then []else Nf (ou n aA (cyc0 n aA)) (cyc0 n aA) aA aA.length)else []
theorem SB {n:Nat} {parts:Rows} (h:∀ r∈parts,r≠[]/\∀ w∈r,0<=w/\w<(n:Int)):∀ k,k<=parts.length->0<=NQ parts n k/\NQ parts n k<=n
 |0,_=>⟨Int.natCast_nonneg _,Int.le_refl _⟩
 |k+1,hk=>by
   have ih:=SB h k au
   rw [NQ];split
   ·have h1:=(h _ (mo (l:=parts) (i:=k) au)).2 _ (ny (l:=aQ parts k) (k:=0) (by rename_i q;omega))
    omega
   ·exact ih
theorem Uu {n:Nat} {aA:List kX} {l0:Int} (h:gOk n aA) (h0:0<=l0/\l0<=n):∀ k,k<=aA.length->0<=KE aA l0 k/\KE aA l0 k<=n
 |0,_=>h0
 |k+1,hk=>by
   have ih:=Uu h h0 k au
   rw [KE];split
   ·obtain⟨a1,a2,_,_⟩:=h.2.2 k au
    omega
   ·exact ih
theorem NA {n:Nat} {aA:List kX} {r:Int} (h:gOk n aA) (hr:rOK r n):∃ w,Jm n (ou n aA r) w/\w.length<=n:=by
 have hx:qp (iP n aA) n:=by
   have:=Eu h;rw [bP]at this;exact this
 obtain⟨h1,h2⟩:=s0_ok (n:=n) (r:=r) hr;have h1':Jm n (Qf n aA r).1 (Qf n aA r).2:=by unfold Qf;rw [bP];exact h1
 have h2':neg (Qf n aA r).1+(Qf n aA r).2.length<=n:=by unfold Qf;rw [bP];exact h2
 obtain⟨g1,g2⟩:=Qd hx h1' h2' (n+1);unfold ou;rw [bP];exact⟨_,g1,au⟩
theorem Qc {n:Nat} {aA:List kX} {r to:Int} (h:gOk n aA) (hr:rOK r n) (ht:0<=to/\to<n):trOk (ou n aA r) to:=by
 obtain⟨w,h1,h2⟩:=NA h hr;have hl:=h1.lb;have:=h.2.1;refine⟨⟨w,by rw [hl];exact h1,by rw [hl];exact h2⟩,ht.1,au,au⟩
set_option maxHeartbeats 40000000
def F_AV:Fact E0:=bM 193 Proofs.Tryz.f193 rfl rfl rfl [.i,.l 78] (fun n aA=>.ok (.aW none 0 (cycS n aA))) [F_AW,F_AX,F_Aa,F_Ab,F_DP] [] (by
   intro n aA;refine dP rfl rfl fun hk=>?_
   simp only [know]at hk;have hal:aA.length*16<=140737488355328:=hk.2.1.1
   have hpm:pK n aA=true->∀ r∈kQ n aA,r≠[]/\∀ w∈r,0<=w/\w<n:=fun h=>by
     have hgo:=Lm h;obtain⟨m,rfl⟩:=Int.eq_ofNat_of_zero_le hgo.1;have hx:=Eu hgo;rw [bP]at hx;unfold kQ;rw [h];exact NR hx (Nat.le_trans (tot_next (m:Int) aA) (show @ln (ah 78) aA<=4611686018427387904 by omega))
   have hp0:pK n aA=false->kQ n aA=[]:=fun h=>by unfold kQ;rw [h];rfl
   have hcy:∀ C:List Int,cycS n aA=(bif pK n aA then(if KE aA (NQ (kQ n aA) n (kQ n aA).length) aA.length=n then []else Nf (ou n aA (KE aA (NQ (kQ n aA) n (kQ n aA).length) aA.length)) (KE aA (NQ (kQ n aA) n (kQ n aA).length) aA.length) aA aA.length)else []):=fun _=>rfl
   replace hcy:=hcy [];generalize cycS n aA=C at hcy
   repeat' first|refine dM ?_|apply B_<;>intro h hc|apply I_;intro h
   all_goals conv=>whnf
   generalize kQ n aA=ps at *;refine Or.inr (Or.inr ⟨[],[5,20],[],[],[0,1,18,19,36,37,38,39,82,83,84,85,86,87,88,89,90,91,92,93,94,95,96,97,98,99,100,101,102,103],[],?_⟩);conv=>whnf
   refine⟨fun(s:Int×Int×Unit) (_:Unit)=>∃ k:Nat,s.2.1=k/\k<=@ln (ah 34) ps/\s.1=NQ ps n k,fun(s:Int×Int×Unit) _=>((@ln (ah 34) ps:Nat)-s.2.1).toNat,?_⟩
   conv=>whnf
   refine eZ.mk ⟨0,rfl,Nat.zero_le _,rfl⟩ bA ?_;rintro⟨(l0:Int),(k:Int),_⟩ _ ⟨k,hk1,hk2,hS⟩;replace hk1:_=(k:Int):=hk1;subst hk1;replace hS:l0=NQ ps n k:=hS;replace hk2:k<=@ln (ah 34) ps:=hk2;refine gK fun K hK=>?_
   by_cases hkl:k<@ln (ah 34) ps
   ·have hd:decide ((k:Int)<(@ln (ah 34) ps:Nat))=true:=decide_eq_true au
    repeat' first|refine iF ?_|apply B_<;>intro h hc|apply I_;intro h
    all_goals refine iw ?_
    ·refine⟨k+1,rfl,hkl,?_⟩;exact(congrArg (fun x=>min x (gi (aQ ps k) 0)) hS).trans (plA_s1 (by assumption)).symm
    ·refine⟨k+1,rfl,hkl,?_⟩;exact hS.trans (plA_s0 (by assumption)).symm
   have hd:decide ((k:Int)<(@ln (ah 34) ps:Nat))=false:=decide_eq_false au
   have ek:k=List.length (α:=List Int) ps:=Nat.le_antisymm hk2 (Nat.le_of_not_lt hkl);rw [ek]at hS;rw [<- hS]at hcy
   cases hg:pK n aA with
   |false =>
     have hcy2:C=[]:=by rw [hcy,hg];rfl
     have hps:=hp0 hg;have hl0:l0=n:=by rw [hS,hps];rfl
     have hd2:(decide (l0<0) || !pK n aA)=true:=by rw [hg];exact Bool.or_true _
     repeat' first|refine iF ?_|apply B_<;>intro h hc|apply I_;intro h
     all_goals refine iw ?_
     exact⟨Or.inl rfl,hcy2⟩
   |true =>
     have hgo:=Lm hg;obtain⟨n,rfl⟩:=Int.eq_ofNat_of_zero_le hgo.1;have hn1:n<=262144:=by have:=hgo.2.1;omega
     have hl0:0<=l0/\l0<=n:=by rw [hS];exact SB (hpm hg) _ (Nat.le_refl _)
     have hd2:(decide (l0<0) || !pK n aA)=false:=by rw [hg,decide_eq_false au];rfl
     rw [hg]at hcy;replace hcy:C=(if KE aA l0 aA.length=n then []else Nf (ou n aA (KE aA l0 aA.length)) (KE aA l0 aA.length) aA aA.length):=hcy
     repeat' first|refine iF ?_|apply B_<;>intro h hc|apply I_;intro h
     all_goals refine iw ?_
     refine Or.inr (Or.inr ⟨[],[5,43],[],[],[0,1,41,42,82,83,84,85,86,87,88,89,90,91,92,93,94,95,96,97,98,99,100,101,102,103],[],?_⟩);conv=>whnf
     refine⟨fun(s:Int×Int×Unit) (_:Unit)=>∃ k:Nat,s.2.1=k/\k<=@ln (ah 78) aA/\s.1=KE aA l0 k,fun(s:Int×Int×Unit) _=>((@ln (ah 78) aA:Nat)-s.2.1).toNat,?_⟩
     conv=>whnf
     refine eZ.mk ⟨0,rfl,Nat.zero_le _,rfl⟩ bA ?_;rintro⟨(l1:Int),(k2:Int),_⟩ _ ⟨k2,hj1,hj2,hS1⟩;replace hj1:_=(k2:Int):=hj1;subst hj1;replace hS1:l1=KE aA l0 k2:=hS1;replace hj2:k2<=@ln (ah 78) aA:=hj2;refine gK fun K1 hK1=>?_
     by_cases hjl:k2<@ln (ah 78) aA
     ·have hd3:decide ((k2:Int)<(@ln (ah 78) aA:Nat))=true:=decide_eq_true au
      repeat' first|refine iF ?_|apply B_<;>intro h hc|apply I_;intro h
      all_goals refine iw ?_
      ·refine⟨k2+1,rfl,hjl,?_⟩;exact(congrArg (fun x=>min x (kW aA k2).From) hS1).trans (alA_s1 (by assumption)).symm
      ·refine⟨k2+1,rfl,hjl,?_⟩;exact hS1.trans (alA_s0 (by assumption)).symm
     have hd3:decide ((k2:Int)<(@ln (ah 78) aA:Nat))=false:=decide_eq_false au
     have ej:k2=@ln (ah 78) aA:=Nat.le_antisymm hj2 (Nat.le_of_not_lt hjl);rw [ej]at hS1;rw [<- hS1]at hcy;have hl1:0<=l1/\l1<=n:=by rw [hS1];exact Uu hgo hl0 _ (Nat.le_refl _)
     by_cases hln:l1=n
     ·have hd4:decide (l1=(n:Int))=true:=decide_eq_true hln
      repeat' first|refine iF ?_|apply B_<;>intro h hc|apply I_;intro h
      all_goals refine iw ?_
      exact⟨Or.inl rfl,hcy.trans (if_pos hln)⟩
     have hd4:decide (l1=(n:Int))=false:=decide_eq_false hln;rw [if_neg hln]at hcy;have hrk:rOK l1 n:=⟨hl1.1,au⟩
     repeat' first|(refine jU ?_;first|(apply aP;focus (exact⟨hgo,hrk⟩))|refine bO bK trivial ?_)|apply B_<;>intro h hc|apply I_;intro h
     all_goals refine iw ?_
     generalize hB:ou (n:Int) aA l1=B at *;refine Or.inr (Or.inr ⟨[],[11,67,82,83,84,85,86,87,88,89,90,91,92,93,94,95,96,97,98,99,100,101,102,103],[(1000011,.aW (some true) 0 [])],[],[5,10,65,66],[],?_⟩);conv=>whnf
     refine⟨fun(s:Li 0×Int×Unit) (_:Unit)=>∃ k:Nat,s.2.1=k/\k<=@ln (ah 78) aA/\s.1=Nf B l1 aA k,fun(s:Li 0×Int×Unit) _=>((@ln (ah 78) aA:Nat)-s.2.1).toNat,?_⟩
     conv=>whnf
     refine eZ.mk ⟨0,rfl,Nat.zero_le _,rfl⟩ bA ?_;rintro⟨(bb:Li 0),(k3:Int),_⟩ _ ⟨k3,hm1,hm2,hS2⟩;replace hm1:_=(k3:Int):=hm1;subst hm1;replace hS2:bb=Nf B l1 aA k3:=hS2;replace hm2:k3<=@ln (ah 78) aA:=hm2;refine gK fun K2 hK2=>?_
     by_cases hml:k3<@ln (ah 78) aA
     ·have hd5:decide ((k3:Int)<(@ln (ah 78) aA:Nat))=true:=decide_eq_true au
      have hok:trOk B (gt 78 aA (k3:Int).toNat).From:=by
        rw [<- hB];obtain⟨a1,a2,_,_⟩:=hgo.2.2 k3 (by exact hml)
        exact Qc hgo hrk ⟨a1,a2⟩
      repeat' first|(refine jU ?_;first|(apply aP;focus (exact hok))|refine bO bK trivial ?_)|apply B_<;>intro h hc|apply I_;intro h
      all_goals refine iw ?_
      ·refine⟨k3+1,rfl,hml,?_⟩;exact hS2.trans (beB_0 (by assumption)).symm
      ·refine⟨k3+1,rfl,hml,?_⟩;exact(beB_1 (aA:=aA) (k:=k3) (by assumption) (by rw [<- hS2];exact hc)).symm
      ·refine⟨k3+1,rfl,hml,?_⟩;exact hS2.trans (beB_2 (aA:=aA) (k:=k3) (by assumption) (by rw [<- hS2];exact hc)).symm
     have hd5:decide ((k3:Int)<(@ln (ah 78) aA:Nat))=false:=decide_eq_false au
     have em:k3=@ln (ah 78) aA:=Nat.le_antisymm hm2 (Nat.le_of_not_lt hml);rw [em]at hS2
     repeat' first|refine iF ?_|apply B_<;>intro h hc|apply I_;intro h
     all_goals refine iw ?_
     exact⟨Or.inl rfl,pO (hS2.trans hcy.symm)⟩)
abbrev M7 (l:Li 27) (k:Nat):iQ:=gt 27 l k
def ZF (l:Li 27) (k:Nat) (m:List (ah 1×ah 0)) (next:List (ah 1×ah 0)->List (ah 1×ah 0)):List (ah 1×ah 0):=bif !(jA m (M7 l k).Name).isSome then next (fV m (M7 l k).Name (k:Int))else next m
def ixF (_:Li 27) (m:List (ah 1×ah 0)):List (ah 1×ah 0):=m
def ixS (l:Li 27):List (ah 1×ah 0):=lp (ZF l) (ixF l) (@ln (ah 27) l) 0 []
def vrI (T:List (ah 1×ah 0)) (i:Nat) (P:Li 1) (k:Nat) (s:List (ah 1×ah 2)×Li 78) (next:List (ah 1×ah 2)×Li 78->Bool):Bool :=
 bif !(jA T (gt 1 P k)).isSome||(jA s.1 (gt 1 P k)).getD false then false else next (fV s.1 (gt 1 P k) true,@HAppend.hAppend (Li 78) (Li 78) (Li 78) _ s.2 [(⟨(i:Int),(jA T (gt 1 P k)).getD (0:Int)⟩:kX)])
def vrF (l:Li 27) (k:Nat) (next:Li 78->Bool) (s:List (ah 1×ah 2)×Li 78):Bool:=bif !lW (M7 l k).Name then false else next s.2
def vrB (l:Li 27) (T:List (ah 1×ah 0)) (k:Nat) (A:Li 78) (next:Li 78->Bool):Bool:=lp (vrI T k (M7 l k).Parents) (vrF l k next) (@ln (ah 1) (M7 l k).Parents) 0 ([],A)
def vrE (l:Li 27) (_:List (ah 1×ah 0)) (A:Li 78):Bool:=decide ((@ln (ah 0) (cycS (@ln (ah 27) l) A):Int)=0)
def j5 (l:Li 27):Bool :=
 bif decide ((4096:Int)<(@ln (ah 27) l:Nat))then false
 else bif !decide ((List.length (ixS l):Int)=(@ln (ah 27) l:Nat))then false
 else lp (vrB l (ixS l)) (vrE l (ixS l)) (@ln (ah 27) l) 0 []
theorem GL {k v:Nat} (x:ah k) (y:ah v):∀ l:List (ah k×ah v),(fV l x y).length<=l.length+1
 |[]=>Nat.le_refl _
 |(a,u)::r=>by
   show List.length (if x=a then(x,y)::r else(a,u)::fV r x y)<=_
   split
   ·exact Nat.le_succ _
   ·exact Nat.succ_le_succ (GL x y r)
theorem ixS_len (l:Li 27):List.length (ixS l)<=@ln (ah 27) l:=by
 have h:∀ (r k:Nat) (m:List (ah 1×ah 0)),List.length (lp (ZF l) (ixF l) r k m)<=List.length m+r:=by
   intro r
   induction r with
   |zero=>intro k m;exact Nat.le_refl _
   |succ r ih =>
     intro k m;show List.length (bif !(jA m (M7 l k).Name).isSome then lp (ZF l) (ixF l) r (k+1) (fV m (M7 l k).Name (k:Int))else lp (ZF l) (ixF l) r (k+1) m)<=_
     cases hq:!(jA m (M7 l k).Name).isSome with
     |true =>
       have h1:=ih (k+1) (fV m (M7 l k).Name (k:Int));have h2:=GL (k:=1) (v:=0) (M7 l k).Name (k:Int) m;show List.length (lp (ZF l) (ixF l) r (k+1) (fV m (M7 l k).Name (k:Int)))<=_;omega
     |false =>
       have h1:=ih (k+1) m;show List.length (lp (ZF l) (ixF l) r (k+1) m)<=_;omega
 have:=h (@ln (ah 27) l) 0 [];show List.length (lp (ZF l) (ixF l) _ 0 [])<=_;exact Nat.le_trans this (by show 0+_<=_;omega)
def Np (l:Li 27) (k:Nat):Nat:=((l.drop k).map fun x:ah 27=>@ln (ah 1) (show iQ from x).Parents).sum
theorem vpS_s {l:Li 27} {k:Nat} (h:k<@ln (ah 27) l):Np l k=@ln (ah 1) (M7 l k).Parents+Np l (k+1):=by
 unfold Np;have e:M7 l k=l[k]:=by unfold M7 gt;rw [List.getD_eq_getElem?_getD,List.getElem?_eq_getElem h];rfl
 rw [List.drop_eq_getElem_cons h,List.map_cons,List.sum_cons,e]
def vOk (l:Li 27):Prop:=Np l 0<=1099511627776/\∀ k,k<@ln (ah 27) l->((M7 l k).Name.size:Int)<=140737488355328
def I_GH:je E0:=kC 191 Proofs.Tryz.f191 rfl rfl
def F_Eg:Fact E0:=bM 95 Proofs.Tryz.f95 rfl rfl rfl [.l 27] (fun l=>.ob (vOk l) (.b (j5 l))) [F_AV,F_Eh] [I_GH] (by
   intro l;refine fD rfl rfl fun hb hk=>?_
   simp only [know]at hk;obtain⟨hb1,hb2⟩:=hb
   repeat' first|refine dM ?_|apply B_<;>intro h hc|apply I_;intro h
   all_goals conv=>whnf
   ·unfold j5;exact gW (by assumption) rfl
   refine Or.inr (Or.inr ⟨[],[11],[],[0],[3,9,10],[],?_⟩);conv=>whnf
   refine⟨fun(s:Int×Unit) (t:List (ah 1×ah 0)×Unit)=>∃ k:Nat,s.1=k/\k<=@ln (ah 27) l/\ixS l=lp (ZF l) (ixF l) (@ln (ah 27) l-k) k t.1,fun(s:Int×Unit) _=>((@ln (ah 27) l:Nat)-s.1).toNat,?_⟩
   conv=>whnf
   refine eZ.mk ⟨0,rfl,Nat.zero_le _,rfl⟩ bA ?_;rintro⟨(k:Int),_⟩ ⟨(m0:List (ah 1×ah 0)),_⟩ ⟨k,hk1,hk2,hS⟩;replace hk1:_=(k:Int):=hk1;subst hk1;replace hk2:k<=@ln (ah 27) l:=hk2;replace hS:ixS l=lp (ZF l) (ixF l) (@ln (ah 27) l-k) k m0:=hS;refine gK fun K hK=>?_
   by_cases hkl:k<@ln (ah 27) l
   ·have hd:decide ((k:Int)<(@ln (ah 27) l:Nat))=true:=decide_eq_true au
    repeat' first|refine iF ?_|apply B_<;>intro h hc|apply I_;intro h
    all_goals refine iw ?_
    ·refine⟨k+1,rfl,hkl,hS.trans ((cK hkl).trans ?_)⟩;unfold ZF;exact(gW hc rfl).symm
    ·refine⟨k+1,rfl,hkl,hS.trans ((cK hkl).trans ?_)⟩;unfold ZF;exact(gB hc rfl).symm
   have hd:decide ((k:Int)<(@ln (ah 27) l:Nat))=false:=decide_eq_false au
   have hI:ixS l=m0:=hS.trans (iZ au)
   repeat' first|refine iF ?_|apply B_<;>intro h hc|apply I_;intro h
   all_goals refine iw ?_
   have hkn:List.length m0<=@ln (ah 27) l:=by rw [<- hI];exact ixS_len l
   have ob1:((List.length m0:Nat):Int)<=9223372036854775807:=by omega
   repeat' first|(refine jU ?_;first|(apply aP;focus (exact ob1))|refine bO bK trivial ?_)|apply B_<;>intro h hc|apply I_;intro h
   all_goals refine iw ?_
   ·rw [show j5 l=false from ?_];unfold j5;rw [hI];exact(gB (by assumption) (gW (by assumption) rfl)).symm
   have hR:j5 l=lp (vrB l m0) (vrE l m0) (@ln (ah 27) l) 0 []:=by
     unfold j5;rw [hI];exact(gB (by assumption) (gB (by assumption) rfl)).symm
   refine Or.inr (Or.inr ⟨[(4,286,78)],[4,24,46,47,48],[],[],[0,3,22,23],[],?_⟩);conv=>whnf
   refine⟨fun(s:Unit×Int×Unit) (t:Li 78×Unit)=>∃ k:Nat,s.2.1=k/\k<=@ln (ah 27) l/\List.length t.1+Np l k<=Np l 0/\j5 l=lp (vrB l m0) (vrE l m0) (@ln (ah 27) l-k) k t.1,fun(s:Unit×Int×Unit) _=>((@ln (ah 27) l:Nat)-s.2.1).toNat,?_⟩
   conv=>whnf
   refine eZ.mk ⟨0,rfl,Nat.zero_le _,by show 0+Np l 0<=Np l 0;omega,hR⟩ bA ?_
   rintro⟨_,(j:Int),_⟩ ⟨(A:Li 78),_⟩ ⟨j,hj1,hj2,hjv,hS2⟩;replace hj1:_=(j:Int):=hj1;subst hj1;replace hj2:j<=@ln (ah 27) l:=hj2;replace hjv:List.length A+Np l j<=Np l 0:=hjv;replace hS2:j5 l=lp (vrB l m0) (vrE l m0) (@ln (ah 27) l-j) j A:=hS2;refine gK fun K1 hK1=>?_
   by_cases hjl:j<@ln (ah 27) l
   ·have hd1:decide ((j:Int)<(@ln (ah 27) l:Nat))=true:=decide_eq_true au
    repeat' first|refine iF ?_|apply B_<;>intro h hc|apply I_;intro h
    all_goals refine iw ?_
    have hvs:=vpS_s hjl;have hS2':j5 l=lp (vrI m0 j (M7 l j).Parents) (vrF l j fun a=>lp (vrB l m0) (vrE l m0) (@ln (ah 27) l-(j+1)) (j+1) a) (@ln (ah 1) (M7 l j).Parents) 0 ([],A):=hS2.trans (cK hjl)
    generalize hP:(M7 l j).Parents=P at hvs hS2';refine Or.inr (Or.inr ⟨[(4,286,78)],[4,33,46,47,48],[],[3],[0,3,5,6,7,22,23,24,31,32],[1],?_⟩);conv=>whnf
    refine⟨fun(s:Unit×Int×Unit) (t:Li 78×(List (ah 1×ah 2)×Unit))=>∃ i:Nat,s.2.1=i/\i<=@ln (ah 1) P/\List.length t.1+(@ln (ah 1) P-i)+Np l (j+1)<=Np l 0/\j5 l=lp (vrI m0 j P) (vrF l j fun a=>lp (vrB l m0) (vrE l m0) (@ln (ah 27) l-(j+1)) (j+1) a) (@ln (ah 1) P-i) i (t.2.1,t.1),fun(s:Unit×Int×Unit) _=>((@ln (ah 1) P:Nat)-s.2.1).toNat,?_⟩
    conv=>whnf
    refine eZ.mk ⟨0,rfl,Nat.zero_le _,by show List.length A+(_-0)+_<=_;omega,hS2'⟩ bA ?_
    rintro⟨_,(i:Int),_⟩ ⟨(A2:Li 78),(sn:List (ah 1×ah 2)),_⟩ ⟨i,hi1,hi2,hiv,Nc⟩;replace hi1:_=(i:Int):=hi1;subst hi1;replace hi2:i<=@ln (ah 1) P:=hi2;replace hiv:List.length A2+(@ln (ah 1) P-i)+Np l (j+1)<=Np l 0:=hiv;replace Nc:j5 l=lp (vrI m0 j P) (vrF l j fun a=>lp (vrB l m0) (vrE l m0) (@ln (ah 27) l-(j+1)) (j+1) a) (@ln (ah 1) P-i) i (sn,A2):=Nc
    refine gK fun K2 hK2=>?_
    have hPl:@ln (ah 1) (gt 27 l (j:Int).toNat).Parents=@ln (ah 1) P:=congrArg (@ln (ah 1)) hP
    by_cases hil:i<@ln (ah 1) P
    ·have hd2:decide ((i:Int)<(@ln (ah 1) (gt 27 l (j:Int).toNat).Parents:Nat))=true:=decide_eq_true au
     have zC:=Nc.trans (cK hil);have oa:(List.length A2+1)*16<=140737488355328:=by omega
     subst hP
     repeat' first|(refine jU ?_;first|(apply aP;focus (exact oa))|refine bO bK trivial ?_)|apply B_<;>intro h hc|apply I_;intro h
     all_goals refine iw ?_
     ·exact(zC.trans (gW hc rfl).symm).symm
     ·refine⟨i+1,rfl,hil,?_,zC.trans (gB hc rfl).symm⟩;show List.length (@HAppend.hAppend (Li 78) (Li 78) (Li 78) _ A2 [_])+_+_<=_;rw [List.length_append];show List.length A2+1+_+_<=_;omega
    have hd2:decide ((i:Int)<(@ln (ah 1) (gt 27 l (j:Int).toNat).Parents:Nat))=false:=decide_eq_false au
    have zC:=Nc.trans (iZ au)
    have hnm:=hb2 j hjl
    repeat' first|(refine jU ?_;first|(apply aP;focus (exact hnm))|refine bO bK trivial ?_)|apply B_<;>intro h hc|apply I_;intro h
    all_goals refine iw ?_
    ·exact(zC.trans (gW hc rfl).symm).symm
    ·refine⟨j+1,rfl,hjl,?_,zC.trans (gB hc rfl).symm⟩;show List.length A2+Np l (j+1)<=Np l 0;omega
   have hd1:decide ((j:Int)<(@ln (ah 27) l:Nat))=false:=decide_eq_false au
   repeat' first|refine iF ?_|apply B_<;>intro h hc|apply I_;intro h
   all_goals refine iw ?_
   exact(hS2.trans (iZ au)).symm)
def Ai (s:ByteArray):Prop:=(s.size:Int)<=140737488355328
def vdL (s:ByteArray):Li 27:=[(⟨s,[]⟩:iQ)]
theorem vdL_ok {s:ByteArray} (h:Ai s):vOk (vdL s):=⟨by show 0+0<=_;decide,fun k hk=>by
 have hk:k<1:=hk;have e:k=0:=by omega
 subst e
 exact h⟩
def uS (s:ByteArray):Bool:=j5 (vdL s)
abbrev Ez (s:ByteArray):Bool:=decide (s=⟨#[]⟩)||uS s
def RF:Fact E0:=bM 79 Proofs.Tryz.f79 rfl rfl rfl [.s] (fun s=>.ob (Ai s) (.b (uS s))) [F_Eg] [] (by
   repeat intro _
   refine fD rfl rfl fun hb hk=>?_
   have hvd:=vdL_ok hb
   repeat' first|(refine w_ ?_;first|(apply aP;focus (exact hvd))|refine bO bK trivial ?_)|apply B_<;>intro h hc|apply I_;intro h
   all_goals conv=>whnf
   all_goals rfl)
def F_BI:Fact E0:=bM 90 Proofs.Tryz.f90 rfl rfl rfl [.s] (fun s=>.ob (Ai s) (.b (decide (s=⟨#[]⟩)||uS s))) [RF] [] (by
   repeat intro _
   refine fD rfl rfl fun hb hk=>?_
   repeat' first|(refine w_ ?_;first|(apply aP;focus (exact fun _=>hb))|refine bO bK @hb ?_)|apply B_<;>intro h hc|apply I_;intro h
   all_goals conv=>whnf
   all_goals rfl)
theorem U8 {k v:Int} (h:zD k v=true):Cu k=true:=by
 unfold zD at h
 by_cases h3:k=3
 ·subst h3;rfl
 ·by_cases h6:k=6
  ·subst h6;rfl
  ·rw [decide_eq_false h3,decide_eq_false h6]at h;exact(Bool.and_eq_true_iff.1 h).1
theorem X6 {k v:Int} {q r:Bool} (h:(!zD k v||q||r)=false):0<=k/\k<((13:Nat):Int):=LG (U8 (by
 have h2:=(Bool.or_eq_false_iff.1 (Bool.or_eq_false_iff.1 h).1).1
 simpa using h2))
abbrev rwA (a k:Int):Int:=IntKind.i64.wrap (a+(X4 k).off)
def mq (s:ByteArray) (a k v:Int):ByteArray×Bool :=
 bif !zD k v||decide (a<0)||decide ((s.size:Int)<a)then(⟨#[]⟩,false)
 else bif !lD s (rwA a k) (X4 k).size v || !X8 k then(oF s (rwA a k) (X4 k).size v,lD s (rwA a k) (X4 k).size v)
 else bif !(vF (oF s (rwA a k) (X4 k).size v) a).2||decide ((s.size:Int)-a<8) || !decide (0<=Ho (X4 k).ops (vF (oF s (rwA a k) (X4 k).size v) a).1.Op)then(⟨#[]⟩,false)
 else(oF s (rwA a k) (X4 k).size v,true)
theorem Ju (a z n:Int):∀ (m k:Nat) (l:Li 3),@ln (ah 3) (lp (wpB a n) (wpF a n) m k l)=@ln (ah 3) l
 |0,k,l=>rfl
 |m+1,k,l=>(Ju a z n m (k+1) _).trans (@List.length_set (ah 3) l _ _)
theorem SE (l:List UInt8):(ofBytes l).size=l.length:=by unfold ofBytes;exact List.size_toArray ..
theorem E9 (s:ByteArray) (a z n:Int):(oF s a z n).size=if lD s a z n then s.size else 0:=by
 unfold oF
 cases lD s a z n with
 |false=>rfl
 |true =>
   show(ofBytes (Fa s a z n)).size=s.size;refine(SE (Fa s a z n)).trans ?_;exact Ju a z n z.toNat 0 s.data.toList
theorem bifS {c:Bool} {a b:ByteArray×Bool} {n:Nat} (ha:a.2=true->a.1.size=n) (hb:c=false->b.2=true->b.1.size=n):(bif c then a else b).2=true->(bif c then a else b).1.size=n:=by
 cases c
 ·exact hb rfl
 ·exact ha
theorem Ay {s:ByteArray} {a k v:Int}:(mq s a k v).2=true->(mq s a k v).1.size=s.size:=by
 have key:lD s (rwA a k) (X4 k).size v=true->(oF s (rwA a k) (X4 k).size v).size=s.size:=fun e=>by rw [E9,if_pos e]
 unfold mq;refine bifS (fun h=>by cases h) fun _=>bifS key fun h2=>bifS (fun h=>by cases h) fun _ _=>key ?_
 have:=(Bool.or_eq_false_iff.1 h2).1;simpa using this
def F_DG:Fact E0:=bM 55 Proofs.Tryz.f55 rfl rfl rfl uM (fun s a k v=>.ob (Ai s) (.jm [.str (mq s a k v).1,.b (mq s a k v).2])) [F_DC,F_DA,F_Ep,F_BV,WB] [] (by
   intro s a k v;refine fD rfl rfl fun hb hk=>?_
   have hgr:=T9 k.toNat;simp only [know]at hk;generalize hz:mq s a k v=z
   repeat' first|(refine w_ ?_;first|(apply aP;focus (first|exact fun _=>hb|exact X6 (by assumption)|exact fun _=>X6 (by assumption)))|refine bO bK @hb ?_)|apply B_<;>intro h hc|apply I_;intro h
   all_goals conv=>whnf
   all_goals (unfold mq at hz;(repeat (first|replace hz:=qV (by assumption) hz|replace hz:=nE (by assumption) hz|replace hz:=wT (by first|assumption|omega) hz|replace hz:=wX (by first|assumption|omega) hz));subst hz;exact bA))
end
end Go.SX
