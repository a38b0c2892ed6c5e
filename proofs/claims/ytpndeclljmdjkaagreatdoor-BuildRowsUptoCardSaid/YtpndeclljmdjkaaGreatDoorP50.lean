/- Part B92. -/
import Derived.Test.YtpndeclljmdjkaaGreatDoorP10
import Derived.Test.YtpndeclljmdjkaaGreatDoorP36
import Derived.Test.YtpndeclljmdjkaaGreatDoorP48
import Derived.Test.YtpndeclljmdjkaaGreatDoorP49
set_option linter.all false
set_option maxRecDepth 100000
namespace Go.SX
open List renaming length -> ln
open Go.XK Go.RowKit
set_option maxHeartbeats 40000000
def exU:fZ:=⟨⟨#[108,105,98]⟩,true,exNs,exIs,[],[],[],[],⟨2,0,0,0⟩,[],[]⟩
def nP:bX:=⟨([0,264]:List Int),([-1]:List Int),[],256,512,512,0⟩
def exW:bX:=⟨([4,264]:List Int),([-1]:List Int),[],256,512,512,0⟩
def exX:Iy:=⟨[],[],([⟨0,24⟩]:List dQ),[],[],[]⟩
def exD:Li 42:=([⟨264,0,-1,16⟩,⟨272,0,0,4⟩]:List lM)
theorem lt2 {P:Nat->Prop} (h0:P 0) (h1:P 1):∀ k,k<2->P k
 |0,_=>h0
 |1,_=>h1
 |k+2,h=>absurd h au
theorem lt1 {P:Nat->Prop} (h0:P 0):∀ k,k<1->P k
 |0,_=>h0
 |k+1,h=>absurd h au
theorem WK {P:Nat->Prop}:∀ k,k<0->P k:=fun k h=>absurd h (Nat.not_lt_zero k)
theorem aan {nd:Li 0} (h:lT 0 nd<=1048576):UOk exU.Name exNs exIs [] [] [] [] [] [] nd nP.Slots [] :=
 ⟨show((ByteArray.size _:Nat):Int)<=1048576 by decide +kernel,⟨by decide +kernel,by decide +kernel,by decide +kernel,by decide +kernel,by decide +kernel,by decide +kernel,h,by decide +kernel,by decide +kernel⟩,
  lt2 ⟨show((ByteArray.size _:Nat):Int)<=1048576 by decide +kernel,show((ByteArray.size _:Nat):Int)<=1048576 by decide +kernel,show((ByteArray.size _:Nat):Int)<=1048576 by decide +kernel⟩ ⟨show((ByteArray.size _:Nat):Int)<=1048576 by decide +kernel,show((ByteArray.size _:Nat):Int)<=1048576 by decide +kernel,show((ByteArray.size _:Nat):Int)<=1048576 by decide +kernel⟩,
  lt2 (show(_:Nat)<=1048576 by decide +kernel) (show(_:Nat)<=1048576 by decide +kernel),lt2 ⟨Nat.zero_le _,WK⟩ ⟨Nat.zero_le _,WK⟩,lt2 ⟨Nat.zero_le _,WK⟩ ⟨Nat.zero_le _,WK⟩,lt2 ⟨Nat.zero_le _,WK⟩ ⟨Nat.zero_le _,WK⟩,lt2 ⟨Nat.zero_le _,WK⟩ ⟨Nat.zero_le _,WK⟩,lt2 (Nat.zero_le _) (Nat.zero_le _),
  lt1 ⟨show((ByteArray.size _:Nat):Int)<=1048576 by decide +kernel,show((ByteArray.size _:Nat):Int)<=1048576 by decide +kernel⟩,WK,WK,⟨Nat.zero_le _,WK⟩⟩
theorem Ub:MX exU nP:=aan (by decide +kernel)
theorem Rb:MX exU exW:=aan (by decide +kernel)
theorem ex_res {r:jr×Int} (h:bRes exU nP r):r=(Io exU nP exX exD,0):=by
 rcases h with ⟨h,_⟩|⟨_,x,d,hS,hr⟩
 ·have e:xL exU nP=true:=by decide +kernel
  rw [e]at h;cases h
 ·obtain⟨⟨_,h1⟩,⟨_,h2⟩,⟨_,h3⟩,⟨_,h4⟩,⟨_,h5⟩,⟨_,h6⟩,⟨_,h7⟩⟩:=hS;obtain⟨x1,x2,x3,x4,x5,x6⟩:=x;have e1:=(h1 (by decide +kernel)).trans (show _=([]:List eU)by kernel_rfl)
  have e2:=(h2 (by decide +kernel)).trans (show _=([]:List fQ)by kernel_rfl)
  have e3:=(h3 (by decide +kernel)).trans (show _=([⟨0,24⟩]:List dQ)by kernel_rfl)
  have e4:=(h4 (by decide +kernel)).trans (show _=([]:List dW)by kernel_rfl)
  have e5:=(h5 (by decide +kernel)).trans (show _=([]:List kR)by kernel_rfl)
  have e6:=(h6 (by decide +kernel)).trans (show _=([]:List iH)by kernel_rfl)
  have e7:=(h7 (by decide +kernel)).trans (show _=exD by kernel_rfl)
  subst e7;obtain rfl:x1=[]:=e1;obtain rfl:x2=[]:=e2;obtain rfl:x3=[⟨0,24⟩]:=e3;obtain rfl:x4=[]:=e4;obtain rfl:x5=[]:=e5;obtain rfl:x6=[]:=e6;have e:(!(bV exU nP).ok || !ni (Io exU nP exX exD))=false:=by decide +kernel
  have hr:r=bif !(bV exU nP).ok || !ni (Io exU nP exX exD)then(VK,6)else(Io exU nP exX exD,0):=hr;rw [e]at hr;exact hr
theorem ex_bad {r:jr×Int} (h:bRes exU exW r):r=(VK,1):=by
 rcases h with ⟨_,h⟩|⟨h,_⟩
 ·exact h
 ·have e:xL exU exW=false:=by decide +kernel
  rw [e]at h;cases h
theorem Km:ImOk (Io exU nP exX exD):=ZM Ub WK exX exD
@[reducible] def a_GO:List SV->PR
 |[]=>.ok (.b true)
 |_=>.no
theorem o_Ga:xU 4 a_GO:=by
 intro args m ids vs hG hm hv;unfold a_GO;split
 ·skip
  refine aZ (DB:=[F_Ba,F_DD,F_Ac]) (IL:=[]) (WL:=[W_GJ]) (fn:=Proofs.Tryz.f4) rfl rfl rfl rfl rfl rfl (fun hk=>?_) m ids vs hG hm hv
  clear hG hm hv
  repeat' first|(refine w_ ?_;first|(apply aP;focus (first|exact fun _=>Km|exact(by decide +kernel)|exact fun _=>(by decide +kernel)))|refine bO bK (And.intro @Ub (And.intro @Rb @Km)) ?_)|apply B_<;>intro h hc|apply I_;intro h
  all_goals conv=>whnf
  intro r hr;obtain rfl:=ex_res hr
  repeat' first|(refine w_ ?_;first|(apply aP;focus (first|exact fun _=>Km|exact(by decide +kernel)|exact fun _=>(by decide +kernel)))|refine bO bK (And.intro @Ub (And.intro @Rb @Km)) ?_)|apply B_<;>intro h hc|apply I_;intro h
  all_goals conv=>whnf
  intro r hr;obtain rfl:=ex_bad hr
  repeat' first|(refine w_ ?_;first|(apply aP;focus (first|exact fun _=>Km|exact(by decide +kernel)|exact fun _=>(by decide +kernel)))|refine bO bK (And.intro @Ub (And.intro @Rb @Km)) ?_)|apply B_<;>intro h hc|apply I_;intro h
  all_goals conv=>whnf
  all_goals first|exact absurd hc (by decide +kernel)|decide +kernel|exact⟨by decide +kernel,by decide +kernel⟩|exact fun _=>(by decide +kernel)
 ·trivial
noncomputable def F_Bd:Fact E0:=⟨4,a_GO,by unfold dA;kernel_rfl,o_Ga⟩
def cnL (u:fZ) (l:bX) (k a:Nat):Li 0:=([((lT 9 (nG u l k).marks+a:Nat):Int),((lT 11 (nG u l k).lines:Nat):Int),((lT 13 (nG u l k).inls:Nat):Int),((lT 46 (nG u l k).vars:Nat):Int),((lT 17 (nG u l k).deps:Nat):Int),((lT 44 (nG u l k).ends:Nat):Int)]:List Int)
theorem fin6 {a b c d e f:Bool} (ha:a=true) (hb:b=true) (hc:c=true) (hd:d=true) (he:e=true) (hf:f=true):(true&&a&&b&&c&&d&&e&&f)=true:=by rw [ha,hb,hc,hd,he,hf];rfl
theorem wrN {a b:Nat} (h:a+b<=1099512676352):IntKind.i64.wrap ((a:Int)+(b:Int))=((a+b:Nat):Int):=(kZ ⟨au,au⟩).trans au
section
variable {u:fZ} {l:bX} {m:jr}
theorem cn_set (R:Uz u l m) {k a:Nat} (hk:k<=lT 19 u.Nodes) (ha:a<1048576):List.set (cnL u l k a) 0 (IntKind.i64.wrap ((show Int from gt 0 (cnL u l k a) 0)+1))=cnL u l k (a+1):=by
 have h:=(R.bd k hk).1;show((IntKind.i64.wrap (((lT 9 (nG u l k).marks+a:Nat):Int)+((1:Nat):Int)))::_:List Int)=_;rw [wrN au]
 rfl
theorem Ui (R:Uz u l m) {k:Nat} (hk:k<lT 19 u.Nodes) {x:Int} (hx:x=((lT 44 (nG u l (k+1)).ends:Nat):Int)) :
   ([((lT 9 (nG u l k).marks+Mh (nN u.Nodes k).Marks (nN u.Nodes k).Size (lT 9 (nN u.Nodes k).Marks):Nat):Int),IntKind.i64.wrap (((lT 11 (nG u l k).lines:Nat):Int)+((lT 11 (nN u.Nodes k).Lines:Nat):Int)),IntKind.i64.wrap (((lT 13 (nG u l k).inls:Nat):Int)+((lT 13 (nN u.Nodes k).dK:Nat):Int)),
     IntKind.i64.wrap (((lT 46 (nG u l k).vars:Nat):Int)+((lT 15 (nN u.Nodes k).Vars:Nat):Int)),IntKind.i64.wrap (((lT 17 (nG u l k).deps:Nat):Int)+((lT 17 (nN u.Nodes k).gy:Nat):Int)),x]:List Int)=cnL u l (k+1) 0:=by
 obtain⟨b0,b1,b2,b3,b4,b5⟩:=R.bd k (Nat.le_of_lt hk);obtain⟨d0,d1,d2,d3,d4⟩:=R.bn k hk;rw [wrN au,wrN au,wrN au,wrN au,hx]
 unfold cnL;rw [bf_c0,bf_c1,bf_c2,bf_c3,bf_c4];rfl
theorem cn_nx1 (R:Uz u l m) {k:Nat} (hk:k<lT 19 u.Nodes) (hc:(decide ((nN u.Nodes k).Kind=0)&&decide (0<(nN u.Nodes k).Size))=true):IntKind.i64.wrap (((lT 44 (nG u l k).ends:Nat):Int)+1)=((lT 44 (nG u l (k+1)).ends:Nat):Int):=by
 obtain⟨b0,b1,b2,b3,b4,b5⟩:=R.bd k (Nat.le_of_lt hk);show IntKind.i64.wrap (((lT 44 (nG u l k).ends:Nat):Int)+((1:Nat):Int))=_;rw [wrN au,bf_c5,hc]
 rfl
theorem cn_nx0 (_:Uz u l m) {k:Nat} (hc:(decide ((nN u.Nodes k).Kind=0)&&decide (0<(nN u.Nodes k).Size))=false):((lT 44 (nG u l k).ends:Nat):Int)=((lT 44 (nG u l (k+1)).ends:Nat):Int):=by
 rw [bf_c5,hc];rfl
end
@[reducible] def a_GN:List SV->PR
 |[.agg [.str uName,.b eO,.aW EP 19 aj,.aW za 21 ak,.aW BG 23 aJ,.aW EW 6 aT,.aW EU 6 aS,.aW ET 1 aY,.i aG,.i aU,.i aL,.i aF,.aW vT 27 aH,.aW ze 31 aD],.agg [.aW E5 0 ay,.aW EZ 0 aB,.aW EY 35 aI,.i bJ,.i bD,.i aX,.i dX]]=>.ob (MX (⟨uName,eO,aj,ak,aJ,aT,aS,aY,⟨aG,aU,aL,aF⟩,aH,aD⟩:fZ) (⟨ay,aB,aI,bJ,bD,aX,dX⟩:bX)) (.b true)
 |_=>.no
theorem o_GZ:xU 3 a_GN:=by
 intro args m ids vs hG hm hv;unfold a_GN;split
 ·rename_i uName eO EP aj za ak BG aJ EW aT EU aS ET aY aG aU aL aF vT aH ze aD E5 ay EZ aB EY aI bJ bD aX dX;intro hb;refine aZ (DB:=[F_Bd,F_Bb,F_Bc,F_Bf]) (IL:=[]) (WL:=[W_GJ]) (fn:=Proofs.Tryz.f3) rfl rfl rfl rfl rfl rfl (fun hk=>?_) m ids vs hG hm hv
  clear hG hm hv
  repeat' first|refine s_ bK @hb ?_|apply B_<;>intro h hc|apply I_;intro h
  all_goals conv=>whnf
  rintro⟨m,e⟩ hr
  repeat' first|refine dM ?_|apply B_<;>intro h hc|apply I_;intro h
  all_goals conv=>whnf
  have R:Uz (⟨uName,eO,aj,ak,aJ,aT,aS,aY,⟨aG,aU,aL,aF⟩,aH,aD⟩:fZ) (⟨ay,aB,aI,bJ,bD,aX,dX⟩:bX) m:=rw_of hb hr h.2;clear hr;have hn:@ln (ah 19) aj<=1048575:=R.n0;refine Or.inr (Or.inr ⟨[],[10,111,112,113],[],[4],[2,3,5,6,8,9,208,209,210,211,212,213,214,217,218,219,220,221,222,223,226,227,228,229,230,231,232,235,236,237,238,239,240,241,244,245,246,247,248,249,250,253,254,255,256,257,258,259],[],?_⟩);conv=>whnf
  refine⟨fun(s:Int×Unit) (t:Li 0×Unit)=>∃ k:Nat,s.1=k/\k<=@ln (ah 19) aj/\t.1=cnL (⟨uName,eO,aj,ak,aJ,aT,aS,aY,⟨aG,aU,aL,aF⟩,aH,aD⟩:fZ) (⟨ay,aB,aI,bJ,bD,aX,dX⟩:bX) k 0,fun(s:Int×Unit) _=>(@ln (ah 19) aj-s.1).toNat,?_⟩
  conv=>whnf
  refine eZ.mk ⟨0,rfl,Nat.zero_le _,rfl⟩ bA ?_;rintro⟨(i:Int),_⟩ ⟨(c:Li 0),_⟩ ⟨k,hk1,hk2,hc0⟩;replace hk1:i=(k:Int):=hk1;subst hk1;replace hk2:k<=@ln (ah 19) aj:=hk2;replace hc0:c=cnL (⟨uName,eO,aj,ak,aJ,aT,aS,aY,⟨aG,aU,aL,aF⟩,aH,aD⟩:fZ) (⟨ay,aB,aI,bJ,bD,aX,dX⟩:bX) k 0:=hc0;subst hc0
  by_cases hkl:k<@ln (ah 19) aj
  ·have hd:decide ((k:Int)<(@ln (ah 19) aj:Nat))=true:=decide_eq_true au
   obtain⟨d0,d1,d2,d3,d4⟩:=R.bn k hkl;have d0:@ln (ah 9) (gt 19 aj k:aM).Marks<=1048576:=d0
   repeat' first|refine dM ?_|apply B_<;>intro h hc|apply I_;intro h
   all_goals conv=>whnf
   refine Or.inr (Or.inr ⟨[],[12],[],[4],[2,3,5,6,8,9,10,11,111,112,113,208,209,210,211,212,213,214,217,218,219,220,221,222,223,226,227,228,229,230,231,232,235,236,237,238,239,240,241,244,245,246,247,248,249,250,253,254,255,256,257,258,259],[],?_⟩);conv=>whnf
   refine⟨fun(s:Int×Unit) (t:Li 0×Unit)=>∃ j:Nat,s.1=j/\j<=@ln (ah 9) (gt 19 aj k:aM).Marks/\t.1=cnL (⟨uName,eO,aj,ak,aJ,aT,aS,aY,⟨aG,aU,aL,aF⟩,aH,aD⟩:fZ) (⟨ay,aB,aI,bJ,bD,aX,dX⟩:bX) k (Mh (gt 19 aj k:aM).Marks (gt 19 aj k:aM).Size j),fun(s:Int×Unit) _=>(@ln (ah 9) (gt 19 aj k:aM).Marks-s.1).toNat,?_⟩
   conv=>whnf
   refine eZ.mk ⟨0,rfl,Nat.zero_le _,rfl⟩ bA ?_;rintro⟨(i:Int),_⟩ ⟨(c:Li 0),_⟩ ⟨q,hq1,hq2,hc0⟩;replace hq1:i=(q:Int):=hq1;subst hq1;replace hq2:q<=@ln (ah 9) (gt 19 aj k:aM).Marks:=hq2;replace hc0:c=cnL (⟨uName,eO,aj,ak,aJ,aT,aS,aY,⟨aG,aU,aL,aF⟩,aH,aD⟩:fZ) (⟨ay,aB,aI,bJ,bD,aX,dX⟩:bX) k (Mh (gt 19 aj k:aM).Marks (gt 19 aj k:aM).Size q):=hc0;subst hc0
   by_cases EB:q<@ln (ah 9) (gt 19 aj k:aM).Marks
   ·have hd2:decide ((q:Int)<(@ln (ah 9) (gt 19 aj k:aM).Marks:Nat))=true:=decide_eq_true au
    have hmq:=Y7 (M:=(gt 19 aj k:aM).Marks) (z:=(gt 19 aj k:aM).Size) q;have e3:Mh (gt 19 aj k:aM).Marks (gt 19 aj k:aM).Size (q+1)=Mh (gt 19 aj k:aM).Marks (gt 19 aj k:aM).Size q+(bif decide ((gt 9 (gt 19 aj k:aM).Marks q:eU).At<(gt 19 aj k:aM).Size)then 1 else 0):=rfl
    repeat' first|refine dM ?_|apply B_<;>intro h hc|apply I_;intro h
    all_goals conv=>whnf
    ·refine⟨q+1,rfl,EB,?_⟩;rw [show decide ((gt 9 (gt 19 aj k:aM).Marks q:eU).At<(gt 19 aj k:aM).Size)=true from hc]at e3;rw [e3];exact cn_set R hk2 au
    ·refine⟨q+1,rfl,EB,?_⟩;rw [show decide ((gt 9 (gt 19 aj k:aM).Marks q:eU).At<(gt 19 aj k:aM).Size)=false from hc]at e3;rw [e3];rfl
   have hd2:decide ((q:Int)<(@ln (ah 9) (gt 19 aj k:aM).Marks:Nat))=false:=decide_eq_false au
   obtain rfl:q=@ln (ah 9) (gt 19 aj k:aM).Marks:=by omega
   repeat' first|refine sj_ bK trivial ?_|apply B_<;>intro h hc|apply I_;intro h
   all_goals conv=>whnf
   refine Or.inr (Or.inr ⟨[],[],[],[4],[2,3,5,6,8,9,10,11,208,209,210,211,212,213,214,217,218,219,220,221,222,223,226,227,228,229,230,231,232,235,236,237,238,239,240,241,244,245,246,247,248,249,250,253,254,255,256,257,258,259],[],?_⟩);conv=>whnf
   refine⟨fun(_:Unit) (t:Li 0×Unit)=>t.1=cnL (⟨uName,eO,aj,ak,aJ,aT,aS,aY,⟨aG,aU,aL,aF⟩,aH,aD⟩:fZ) (⟨ay,aB,aI,bJ,bD,aX,dX⟩:bX) (k+1) 0,?_,?_⟩
   ·repeat' first|refine dM ?_|apply B_<;>intro h hc|apply I_;intro h
    all_goals conv=>whnf
    ·exact Ui R hkl (cn_nx1 R hkl hc)
    ·exact Ui R hkl (cn_nx0 R hc)
   rintro _ ⟨(c:Li 0),_⟩ hc0;replace hc0:c=cnL (⟨uName,eO,aj,ak,aJ,aT,aS,aY,⟨aG,aU,aL,aF⟩,aH,aD⟩:fZ) (⟨ay,aB,aI,bJ,bD,aX,dX⟩:bX) (k+1) 0:=hc0;subst hc0;have hkn:0<=(k:Int)/\(k:Int)<(@ln (ah 0) ay:Nat):=⟨au,by have:@ln (ah 0) ay=@ln (ah 19) aj:=R.ll;omega⟩
   repeat' first|refine dM ?_|apply B_<;>intro h hc|apply I_;intro h
   all_goals conv=>whnf
   refine Or.inr (Or.inr ⟨[],[13],[],[],[2,3,5,6,8,9,10,11,111,112,113,208,209,210,211,212,213,214,217,218,219,220,221,222,223,226,227,228,229,230,231,232,235,236,237,238,239,240,241,244,245,246,247,248,249,250,253,254,255,256,257,258,259],[],?_⟩);conv=>whnf
   refine⟨fun(s:Int×Unit) (_:Unit)=>∃ j:Nat,s.1=j/\j<=@ln (ah 11) (gt 19 aj k:aM).Lines,fun(s:Int×Unit) _=>(@ln (ah 11) (gt 19 aj k:aM).Lines-s.1).toNat,?_⟩
   conv=>whnf
   refine eZ.mk ⟨0,rfl,Nat.zero_le _⟩ bA ?_;rintro⟨(i:Int),_⟩ _ ⟨q,hq1,hq2⟩;replace hq1:i=(q:Int):=hq1;subst hq1;replace hq2:q<=@ln (ah 11) (gt 19 aj k:aM).Lines:=hq2
   by_cases EB:q<@ln (ah 11) (gt 19 aj k:aM).Lines
   ·have hd2:decide ((q:Int)<(@ln (ah 11) (gt 19 aj k:aM).Lines:Nat))=true:=decide_eq_true au
    have d1:@ln (ah 11) (gt 19 aj k:aM).Lines<=1048576:=d1;have hx:=R.ln k hkl q EB
    repeat' first|(refine w_ ?_;first|(apply aP;focus (exact hkn))|refine bO bK trivial ?_)|apply B_<;>intro h hc|apply I_;intro h
    all_goals conv=>whnf
    ·exact absurd h hx
    ·exact⟨q+1,rfl,EB⟩
   have hd2:decide ((q:Int)<(@ln (ah 11) (gt 19 aj k:aM).Lines:Nat))=false:=decide_eq_false au
   repeat' first|refine dM ?_|apply B_<;>intro h hc|apply I_;intro h
   all_goals conv=>whnf
   refine Or.inr (Or.inr ⟨[],[15],[],[],[2,3,5,6,8,9,10,11,111,112,113,208,209,210,211,212,213,214,217,218,219,220,221,222,223,226,227,228,229,230,231,232,235,236,237,238,239,240,241,244,245,246,247,248,249,250,253,254,255,256,257,258,259],[],?_⟩);conv=>whnf
   refine⟨fun(s:Int×Unit) (_:Unit)=>∃ j:Nat,s.1=j/\j<=@ln (ah 15) (gt 19 aj k:aM).Vars,fun(s:Int×Unit) _=>(@ln (ah 15) (gt 19 aj k:aM).Vars-s.1).toNat,?_⟩
   conv=>whnf
   refine eZ.mk ⟨0,rfl,Nat.zero_le _⟩ bA ?_;rintro⟨(i:Int),_⟩ _ ⟨q,hq1,hq2⟩;replace hq1:i=(q:Int):=hq1;subst hq1;replace hq2:q<=@ln (ah 15) (gt 19 aj k:aM).Vars:=hq2
   by_cases EB:q<@ln (ah 15) (gt 19 aj k:aM).Vars
   ·have hd2:decide ((q:Int)<(@ln (ah 15) (gt 19 aj k:aM).Vars:Nat))=true:=decide_eq_true au
    have d3:@ln (ah 15) (gt 19 aj k:aM).Vars<=1048576:=d3;have hx:=R.va k hkl q EB;have hv:=R.vt k hkl q EB
    repeat' first|(refine w_ ?_;first|(apply aP;focus (exact⟨hkn,hv⟩))|refine bO bK trivial ?_)|apply B_<;>intro h hc|apply I_;intro h
    all_goals conv=>whnf
    ·exact absurd (hx.symm.trans h) (by decide)
    ·exact⟨q+1,rfl,EB⟩
   have hd2:decide ((q:Int)<(@ln (ah 15) (gt 19 aj k:aM).Vars:Nat))=false:=decide_eq_false au
   repeat' first|refine dM ?_|apply B_<;>intro h hc|apply I_;intro h
   all_goals conv=>whnf
   exact⟨k+1,rfl,hkl,rfl⟩
  have hd:decide ((k:Int)<(@ln (ah 19) aj:Nat))=false:=decide_eq_false au
  obtain rfl:k=@ln (ah 19) aj:=by omega
  obtain⟨b0,b1,_⟩:=R.bd (@ln (ah 19) aj) (Nat.le_refl _);have b0:@ln (ah 9) m.Info.Marks<=1099510579200:=by have:@ln (ah 9) m.Info.Marks=lT 9 (nG (⟨uName,eO,aj,ak,aJ,aT,aS,aY,⟨aG,aU,aL,aF⟩,aH,aD⟩:fZ) (⟨ay,aB,aI,bJ,bD,aX,dX⟩:bX) (@ln (ah 19) aj)).marks:=R.e0;omega
  have b1:@ln (ah 11) m.Info.Lines<=1099510579200:=by have:@ln (ah 11) m.Info.Lines=lT 11 (nG (⟨uName,eO,aj,ak,aJ,aT,aS,aY,⟨aG,aU,aL,aF⟩,aH,aD⟩:fZ) (⟨ay,aB,aI,bJ,bD,aX,dX⟩:bX) (@ln (ah 19) aj)).lines:=R.e1;omega
  repeat' first|refine dM ?_|apply B_<;>intro h hc|apply I_;intro h
  all_goals conv=>whnf
  refine Or.inr (Or.inr ⟨[],[16],[],[],[5,8,9,208,209,210,211,212,213,214,217,218,219,220,221,222,223,226,227,228,229,230,231,232,235,236,237,238,239,240,241,244,245,246,247,248,249,250,253,254,255,256,257,258,259],[],?_⟩);conv=>whnf
  refine⟨fun(s:Int×Unit) (_:Unit)=>∃ j:Nat,s.1=j/\1<=j/\j<=@ln (ah 11) m.Info.Lines+1,fun(s:Int×Unit) _=>(@ln (ah 11) m.Info.Lines+1-s.1).toNat,?_⟩
  conv=>whnf
  refine eZ.mk ⟨1,rfl,Nat.le_refl _,Nat.le_add_left _ _⟩ bA ?_;rintro⟨(i:Int),_⟩ _ ⟨q,hq1,hq0,hq2⟩;replace hq1:i=(q:Int):=hq1;subst hq1;replace hq2:q<=@ln (ah 11) m.Info.Lines+1:=hq2
  by_cases EB:q<@ln (ah 11) m.Info.Lines
  ·have hd2:decide ((q:Int)<(@ln (ah 11) m.Info.Lines:Nat))=true:=decide_eq_true au
   have hx:=R.al q hq0 EB
   repeat' first|refine dM ?_|apply B_<;>intro h hc|apply I_;intro h
   all_goals conv=>whnf
   ·rw [show((q:Int)-1).toNat=q-1 by omega]at h
    omega
   ·exact⟨q+1,rfl,au,au⟩
  have hd2:decide ((q:Int)<(@ln (ah 11) m.Info.Lines:Nat))=false:=decide_eq_false au
  repeat' first|refine dM ?_|apply B_<;>intro h hc|apply I_;intro h
  all_goals conv=>whnf
  refine Or.inr (Or.inr ⟨[],[17],[],[],[5,8,9,208,209,210,211,212,213,214,217,218,219,220,221,222,223,226,227,228,229,230,231,232,235,236,237,238,239,240,241,244,245,246,247,248,249,250,253,254,255,256,257,258,259],[],?_⟩);conv=>whnf
  refine⟨fun(s:Int×Unit) (_:Unit)=>∃ j:Nat,s.1=j/\1<=j/\j<=@ln (ah 9) m.Info.Marks+1,fun(s:Int×Unit) _=>(@ln (ah 9) m.Info.Marks+1-s.1).toNat,?_⟩
  conv=>whnf
  refine eZ.mk ⟨1,rfl,Nat.le_refl _,Nat.le_add_left _ _⟩ bA ?_;rintro⟨(i:Int),_⟩ _ ⟨q,hq1,hq0,hq2⟩;replace hq1:i=(q:Int):=hq1;subst hq1;replace hq2:q<=@ln (ah 9) m.Info.Marks+1:=hq2
  by_cases EB:q<@ln (ah 9) m.Info.Marks
  ·have hd2:decide ((q:Int)<(@ln (ah 9) m.Info.Marks:Nat))=true:=decide_eq_true au
   have hx:=R.am q hq0 EB
   repeat' first|refine dM ?_|apply B_<;>intro h hc|apply I_;intro h
   all_goals conv=>whnf
   ·rw [show((q:Int)-1).toNat=q-1 by omega]at h
    omega
   ·exact⟨q+1,rfl,au,au⟩
  have hd2:decide ((q:Int)<(@ln (ah 9) m.Info.Marks:Nat))=false:=decide_eq_false au
  repeat' first|(refine w_ ?_;first|(apply aP;focus (exact fun _=>of_decide_eq_true rfl))|refine bO bK trivial ?_)|apply B_<;>intro h hc|apply I_;intro h
  all_goals conv=>whnf
  exact fin6 (@decide_eq_true _ (Int.instDecidableEq _ _) (congrArg Int.ofNat R.e0.symm)) (@decide_eq_true _ (Int.instDecidableEq _ _) (congrArg Int.ofNat R.e1.symm)) (@decide_eq_true _ (Int.instDecidableEq _ _) (congrArg Int.ofNat R.e2.symm)) (@decide_eq_true _ (Int.instDecidableEq _ _) (congrArg Int.ofNat R.e3.symm)) (@decide_eq_true _ (Int.instDecidableEq _ _) (congrArg Int.ofNat R.e4.symm)) (@decide_eq_true _ (Int.instDecidableEq _ _) (congrArg Int.ofNat R.e5.symm))
 ·trivial
noncomputable def F_BZ:Fact E0:=Fact.co [.agg [.un,.un,.aW none 19 [],.aW none 21 [],.aW none 23 [],.aW none 6 [],.aW none 6 [],.aW none 1 [],.un,.un,.un,.un,.aW none 27 [],.aW none 31 []],.agg [.aW none 0 [],.aW none 0 [],.aW none 35 [],.un,.un,.un,.un]] ⟨3,a_GN,by unfold dA;kernel_rfl,o_GZ⟩
end Go.SX
