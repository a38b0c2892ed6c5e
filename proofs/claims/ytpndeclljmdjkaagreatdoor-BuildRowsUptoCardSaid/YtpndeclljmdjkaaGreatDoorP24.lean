/- A part of the proof (texts B19, B20, B21). -/
import Derived.Test.YtpndeclljmdjkaaGreatDoorP10
import Derived.Test.YtpndeclljmdjkaaGreatDoorP23
set_option linter.all false
set_option maxRecDepth 100000
namespace Go.SX
open Int renaming eq_ofNat_of_zero_le -> cO,toNat_natCast -> bP
open List renaming length -> ln
open Go.XK Go.RowKit
set_option maxHeartbeats 40000000
def slNB (R:Li 7) (k:Nat) (o:Li 2) (next:Li 2->Li 2):Li 2 :=
 bif Sm (gt 7 R k)&&decide (0<=(gt 7 R k).To.N)&&decide ((gt 7 R k).To.N<(o.length:Int))then next (o.set (gt 7 R k).To.N.toNat true)else next o
def slF (o:Li 2):Li 2:=o
def slNI (R:Li 7) (o:Li 2):Li 2:=lp (slNB R) slF (@ln (ah 7) R) 0 o
def slNO (N:Li 19) (k:Nat) (o:Li 2) (next:Li 2->Li 2):Li 2:=next (slNI (gt 19 N k).Refs o)
def slNS (N:Li 19) (n:Nat):Li 2:=lp (slNO N) slF N.length 0 (List.replicate n false)
def slOB (m:Li 2) (k:Nat) (o:Li 0) (next:Li 0->Li 0):Li 0:=bif gt 2 m k then next (o++([(k:Int)]:Li 0))else next o
def slOF (o:Li 0):Li 0:=o
def BZ (N:Li 19) (n:Nat):Li 0:=lp (slOB (slNS N n)) slOF n 0 []
noncomputable def F_DZ:Fact E0:=bM 45 Proofs.Tryz.f45 rfl rfl rfl [.g dH] (fun _ _ aj ak _ _ _ _ _ _ _ _ _ _=>.ok (.aW none 0 (BZ aj ak.length))) [F_Da] [] (by
   intro _ _ aj ak
   repeat intro _
   refine dP rfl rfl fun hk=>?_
   generalize hz:BZ aj ak.length=rr;unfold BZ at hz;generalize hy:slNS aj ak.length=ss at hz
   repeat' first|(refine w_ ?_;first|(apply aP;focus (first|(refine⟨au,rfl,?_⟩<;>show _*((1:Nat):Int)<=_<;>omega)|(show(_+1)*8<=_<;>omega)))|refine bO bK trivial ?_)|apply B_<;>intro h hc|apply I_;intro h
   all_goals conv=>whnf
   refine Or.inr (Or.inr ⟨[],[19,36,37,40,41,42,43],[],[1],[3,17,18],[],?_⟩);conv=>whnf
   refine⟨fun(s:Int×Unit) (t:Li 2×Unit)=>0<=s.1/\s.1<=aj.length/\t.1.length=ak.length/\ss=lp (slNO aj) slF (aj.length-s.1.toNat) s.1.toNat t.1,fun(s:Int×Unit) _=>(aj.length-s.1).toNat,?_⟩
   conv=>whnf
   refine eZ.mk ⟨bg,bg,List.length_replicate,hy.symm⟩ bA ?_
   rintro⟨(k:Int),_⟩ ⟨(o:Li 2),_⟩ ⟨h0,h1,hF,hS⟩
   try dsimp only at h0 h1 hF hS
   obtain⟨k,rfl⟩:=cO h0;rw [bP]at hS
   repeat' first|(refine w_ ?_;first|(apply aP;focus (first|(refine⟨au,rfl,?_⟩<;>show _*((1:Nat):Int)<=_<;>omega)|(show(_+1)*8<=_<;>omega)))|refine bO bK trivial ?_)|apply B_<;>intro h hc|apply I_;intro h
   all_goals conv=>whnf
   ·refine Or.inr (Or.inr ⟨[],[26,36,37,40,41,42,43],[],[1],[3,17,18,19,24,25],[],?_⟩);conv=>whnf
    refine⟨fun(s:Int×Unit) (t:Li 2×Unit)=>0<=s.1/\s.1<=@ln (ah 7) (gt 19 aj k).Refs/\t.1.length=ak.length/\slNI (gt 19 aj k).Refs o=lp (slNB (gt 19 aj k).Refs) slF (@ln (ah 7) (gt 19 aj k).Refs-s.1.toNat) s.1.toNat t.1,fun(s:Int×Unit) _=>(@ln (ah 7) (gt 19 aj k).Refs-s.1).toNat,?_⟩
    conv=>whnf
    refine eZ.mk ⟨bg,bg,hF,rfl⟩ bA ?_
    rintro⟨(j:Int),_⟩ ⟨(p:Li 2),_⟩ ⟨g0,g1,gF,gS⟩
    try dsimp only at g0 g1 gF gS
    obtain⟨j,rfl⟩:=cO g0;rw [bP]at gS
    repeat' first|(refine w_ ?_;first|(apply aP;focus (first|(refine⟨au,rfl,?_⟩<;>show _*((1:Nat):Int)<=_<;>omega)|(show(_+1)*8<=_<;>omega)))|refine bO bK trivial ?_)|apply B_<;>intro h hc|apply I_;intro h
    all_goals conv=>whnf
    all_goals first
     |((try dsimp only);refine⟨au,au,by first|exact gF|exact(List.length_set (α:=ah 2)).trans gF,gS.trans ((cK au).trans ?_)⟩;rw [show((j:Int)+1).toNat=j+1 by omega];symm;unfold slNB;(try dsimp only);all_goals exact lI)
     |(have gI:=gS.trans (iZ au);(try dsimp only);refine⟨au,au,gF,hS.trans ((cK au).trans ?_)⟩;rw [show((k:Int)+1).toNat=k+1 by omega];unfold slNO;rw [gI];rfl)
   have es:ss=o:=hS.trans (iZ au)
   subst es;have hq:ak.length*48<=140737488355328:=And.left (by assumption:ak.length*BT 21<=140737488355328/\ak.length<=140737488355328)
   refine Or.inr (Or.inr ⟨[(9,3,0)],[9,52],[],[],[50,51],[],?_⟩);conv=>whnf
   refine⟨fun(s:Unit×Int×Unit) (t:Li 0×Unit)=>0<=s.2.1/\s.2.1<=ak.length/\(t.1.length:Int)<=s.2.1/\rr=lp (slOB ss) slOF (ak.length-s.2.1.toNat) s.2.1.toNat t.1,fun(s:Unit×Int×Unit) _=>(ak.length-s.2.1).toNat,?_⟩
   conv=>whnf
   refine eZ.mk ⟨bg,bg,by simp,hz.symm⟩ bA ?_
   rintro⟨_,(j:Int),_⟩ ⟨(p:Li 0),_⟩ ⟨g0,g1,gF,gS⟩
   try dsimp only at g0 g1 gF gS
   obtain⟨j,rfl⟩:=cO g0;rw [bP]at gS
   repeat' first|(refine w_ ?_;first|(apply aP;focus (first|(refine⟨au,rfl,?_⟩<;>show _*((1:Nat):Int)<=_<;>omega)|(show(_+1)*8<=_<;>omega)))|refine bO bK trivial ?_)|apply B_<;>intro h hc|apply I_;intro h
   all_goals conv=>whnf
   all_goals first
    |((try dsimp only);refine⟨au,au,by first|omega|exact Int.le_trans (Int.le_of_eq (lenA (c:=0) _ _)) au,gS.trans ((cK au).trans ?_)⟩;rw [show((j:Int)+1).toNat=j+1 by omega];symm;unfold slOB;(try dsimp only);all_goals exact lI)
    |(refine⟨Or.inl rfl,?_⟩;exact(gS.trans (iZ au)).symm))
abbrev IQ:=Li 44×Bool
def NP (c:IQ) (at_ size al lo hi:Int):Bool:=c.2&&decide (lo<=at_)&&decide (at_<=IntKind.i64.wrap (hi-size))&&decide (at_.tmod al=0)&&!Qn c.1 at_ size
def vC (c:IQ) (at_ size al lo hi:Int) (next:IQ->Bool):Bool:=bif NP c at_ size al lo hi then next (jc c.1 at_ size,NP c at_ size al lo hi)else next (c.1,NP c at_ size al lo hi)
theorem Vh (k:Int):kK k=0\/kK k=1\/kK k=2:=by
 have e:fV (fV (fV ([]:List (ah 0×ah 0)) (0:Int) (0:Int)) (1:Int) (1:Int)) (2:Int) (2:Int)=[((0:Int),(0:Int)),((1:Int),(1:Int)),((2:Int),(2:Int))]:=rfl;unfold kK;rw [e]
 by_cases h0:k=0
 ·subst h0;left;rfl
 ·by_cases h1:k=1
  ·subst h1;right;left;rfl
  ·by_cases h2:k=2
   ·subst h2;right;right;rfl
   ·left;show(if k=(0:Int)then some (0:Int)else if k=(1:Int)then some (1:Int)else if k=(2:Int)then some (2:Int)else none).getD 0=0
    rw [if_neg h0,if_neg h1,if_neg h2];rfl
theorem JG {a b c d e f g h:Int} (hq:yh a b c d e f g h=true):e=g/\f=h:=by
 simp only [yh,bs]at hq;exact⟨hq.1.2,hq.2⟩
def wK (lc ld lz:Int) (i:Int):Int:=gI [(0:Int),lc,ld,lz] i.toNat
def Qr (N:Li 19) (L:Li 0) (lc ld lz lt:Int) (k:Nat) (s:IQ×IQ) (next:IQ×IQ->Bool):Bool :=
 bif oz (gt 19 N k).Kind then vC s.2 (gI L k) (gt 19 N k).Size (gt 19 N k).Align 0 lt fun t=>next (s.1,t)
 else vC s.1 (gI L k) (gt 19 N k).Size (gt 19 N k).Align (wK lc ld lz (kK (gt 19 N k).Kind)) (wK lc ld lz (kK (gt 19 N k).Kind+1)) fun m=>next (m,s.2)
def Qp (nd:Li 0) (S:Li 0) (lc ld:Int) (k:Nat) (s:IQ) (next:IQ->Bool):Bool :=
 bif !decide (0<=Ho nd (k:Int))then next (s.1,s.2&&decide (gI S k = -1))else vC s (gI S k) 8 8 lc ld next
def Yy (T:Li 35) (lc:Int) (k:Nat) (s:IQ) (next:IQ->Bool):Bool:=vC s (gt 35 T k).At 8 8 0 lc next
def plTF (t:Bool) (s:IQ):Bool:=s.2&&t
def Qo (T:Li 35) (lc:Int) (t:Bool) (s:IQ):Bool:=lp (Yy T lc) (plTF t) T.length 0 s
def Qq (nd:Li 0) (S:Li 0) (T:Li 35) (lc ld:Int) (s:IQ×IQ):Bool:=lp (Qp nd S lc ld) (Qo T lc s.2.2) S.length 0 s.1
def jV (N:Li 19) (I:Nat) (L S:Li 0) (T:Li 35) (lc ld lz lt:Int):Bool :=
 bif !yh lc ld lz lt L.length S.length N.length I then false
 else lp (Qr N L lc ld lz lt) (Qq (BZ N I) S T lc ld) N.length 0 (([],true),([],true))
noncomputable def I_Fa:je E0:=kC 43 Proofs.Tryz.f43 rfl rfl
noncomputable def F_Cw:Fact E0:=bM 13 Proofs.Tryz.f13 rfl rfl rfl [.g dH,.g jP] (fun _ _ aj ak _ _ _ _ _ _ _ _ _ _ ay aB aI bJ bD aX dX=>.ob ((∀ k,k<aj.length->(gt 19 aj k).Align≠0)/\aj.length+aB.length+aI.length<=549755813888) (.b (jV aj ak.length ay aB aI bJ bD aX dX))) [F_Cz,F_Cx,F_Cy,F_DJ,F_DI,F_DZ,WB] [I_Fa] (by
   intro _ _ aj ak _ _ _ _ _ _ _ _ _ _ ay aB aI bJ bD aX dX;refine fD rfl rfl fun hb hk=>?_
   generalize hz:jV aj ak.length ay aB aI bJ bD aX dX=rr
   repeat' first|refine dM ?_|apply B_<;>intro h hc|apply I_;intro h
   all_goals conv=>whnf
   ·unfold jV at hz;(repeat (first|replace hz:=qV (by assumption) hz|replace hz:=nE (by assumption) hz|replace hz:=wT (by first|assumption|omega) hz|replace hz:=wX (by first|assumption|omega) hz));subst hz;exact bA
   refine Or.inr (Or.inr ⟨[(100005,0,44),(100006,0,44)],[33],[],[2,3],[2,3,5,6,7,31,32,97,98,129,130,131,132],[],?_⟩);conv=>whnf
   unfold jV at hz;replace hz:=nE (by assumption) hz
   have hl:=JG (by assumption)
   refine⟨fun(s:Int×Unit) (t:(Li 44×Bool×Unit)×(Li 44×Bool×Unit)×Unit)=>0<=s.1/\s.1<=aj.length/\(t.1.1.length:Int)<=s.1/\(t.2.1.1.length:Int)<=s.1/\rr=lp (Qr aj ay bJ bD aX dX) (Qq (BZ aj ak.length) aB aI bJ bD) (aj.length-s.1.toNat) s.1.toNat ((t.1.1,t.1.2.1),(t.2.1.1,t.2.1.2.1)),fun(s:Int×Unit) _=>(aj.length-s.1).toNat,?_⟩
   conv=>whnf
   refine eZ.mk ⟨bg,bg,by simp,by simp,hz.symm⟩ bA ?_
   rintro⟨(k:Int),_⟩ ⟨⟨(m1:Li 44),(m2:Bool),_⟩,⟨(t1:Li 44),(t2:Bool),_⟩,_⟩ ⟨h0,h1,hF,hF2,hS⟩
   try dsimp only at h0 h1 hF hF2 hS
   obtain⟨k,rfl⟩:=cO h0;rw [bP]at hS;have hx:=Vh (gt 19 aj k).Kind
   repeat' first|(refine w_ ?_;first|(apply aP;focus (first|(intro _<;>exact hb.1 _ au)|exact hb.1 _ au))|refine bO (h_ [(13,12,3),(22,21,3)]) trivial ?_)|apply B_<;>intro h hc|apply I_;intro h
   all_goals conv=>whnf
   all_goals first
    |((try dsimp only);refine⟨au,au,by first|omega|exact Int.le_trans (Int.ofNat_le.2 (AJ _ _ _)) au,by first|omega|exact Int.le_trans (Int.ofNat_le.2 (AJ _ _ _)) au,hS.trans ((cK au).trans ?_)⟩;rw [show((k:Int)+1).toNat=k+1 by omega];symm;unfold Qr vC NP wK gI;(try dsimp only);all_goals exact lI)
    |skip
   have hl2:(aB.length:Int)<=549755813888:=by omega
   replace hS:=hS.trans (iZ au)
   unfold Qq at hS;have ek:k=aj.length:=by omega
   subst ek;refine Or.inr (Or.inr ⟨[],[82,97,98],[],[2],[3,5,6,10,80,81,129,130,131,132],[],?_⟩);conv=>whnf
   refine⟨fun(s:Int×Unit) (t:(Li 44×Bool×Unit)×Unit)=>0<=s.1/\s.1<=aB.length/\(t.1.1.length:Int)<=aj.length+s.1/\rr=lp (Qp (BZ aj ak.length) aB bJ bD) (Qo aI bJ t2) (aB.length-s.1.toNat) s.1.toNat (t.1.1,t.1.2.1),fun(s:Int×Unit) _=>(aB.length-s.1).toNat,?_⟩
   conv=>whnf
   refine eZ.mk ⟨bg,bg,bg,hS⟩ bA ?_
   rintro⟨(j:Int),_⟩ ⟨⟨(p1:Li 44),(p2:Bool),_⟩,_⟩ ⟨g0,g1,gF,gS⟩
   try dsimp only at g0 g1 gF gS
   obtain⟨j,rfl⟩:=cO g0;rw [bP]at gS
   repeat' first|(refine w_ ?_;first|(apply aP;focus (first|(intro _<;>exact hb.1 _ au)|exact hb.1 _ au))|refine bO (h_ [(13,12,3),(22,21,3)]) trivial ?_)|apply B_<;>intro h hc|apply I_;intro h
   all_goals conv=>whnf
   all_goals first
    |((try dsimp only);refine⟨au,au,by first|omega|exact Int.le_trans (Int.ofNat_le.2 (AJ _ _ _)) au,gS.trans ((cK au).trans ?_)⟩;rw [show((j:Int)+1).toNat=j+1 by omega];symm;unfold Qp vC NP gI;(try dsimp only);all_goals exact lI)
    |skip
   replace gS:=gS.trans (iZ au)
   unfold Qo at gS;refine Or.inr (Or.inr ⟨[],[113],[],[2],[3,5,6,111,112,129,130,131,132],[],?_⟩);conv=>whnf
   refine⟨fun(s:Int×Unit) (t:(Li 44×Bool×Unit)×Unit)=>0<=s.1/\s.1<=aI.length/\(t.1.1.length:Int)<=aj.length+aB.length+s.1/\rr=lp (Yy aI bJ) (plTF t2) (aI.length-s.1.toNat) s.1.toNat (t.1.1,t.1.2.1),fun(s:Int×Unit) _=>(aI.length-s.1).toNat,?_⟩
   conv=>whnf
   refine eZ.mk ⟨bg,bg,bg,gS⟩ bA ?_
   rintro⟨(i:Int),_⟩ ⟨⟨(q1:Li 44),(q2:Bool),_⟩,_⟩ ⟨f0,f1,fF,fS⟩
   try dsimp only at f0 f1 fF fS
   obtain⟨i,rfl⟩:=cO f0;rw [bP]at fS
   repeat' first|(refine w_ ?_;first|(apply aP;focus (first|(intro _<;>exact hb.1 _ au)|exact hb.1 _ au))|refine bO (h_ [(13,12,3),(22,21,3)]) trivial ?_)|apply B_<;>intro h hc|apply I_;intro h
   all_goals conv=>whnf
   all_goals first
    |((try dsimp only);refine⟨au,au,by first|omega|exact Int.le_trans (Int.ofNat_le.2 (AJ _ _ _)) au,fS.trans ((cK au).trans ?_)⟩;rw [show((i:Int)+1).toNat=i+1 by omega];symm;unfold Yy vC NP;(try dsimp only);all_goals exact lI)
    |((try dsimp only);exact(fS.trans (iZ au)).symm))
def XM (N I:Nat) (s:fA):Bool:=(decide (s.Kind=1)&&decide (0<=s.N)&&decide (s.N<(I:Int))&&decide (s.Off=0))||(decide (s.Kind=0)&&decide (0<=s.N)&&decide (s.N<(N:Int)))
def stSB (N I:Nat) (T:Li 35) (k:Nat) (_:Unit) (next:Unit->Bool):Bool :=
 bif !(decide ((gt 35 T k).Kind=1)&&decide (0<=(gt 35 T k).N)&&decide ((gt 35 T k).N<(I:Int))&&decide ((gt 35 T k).Off=0))&&!(decide ((gt 35 T k).Kind=0)&&decide (0<=(gt 35 T k).N)&&decide ((gt 35 T k).N<(N:Int)))then false else next ()
def XP (L:Li 0) (T:Li 35) (A:Li 58) (k:Nat) (m:List (ah 0×ah 2)) (next:List (ah 0×ah 2)->Bool):Bool :=
 bif stOdd L (gt 58 A k)then false else bif !uE L (gt 58 A k)then next m
 else bif decide (mh (gt 58 A k) T<0)then false else next (fV m (mh (gt 58 A k) T) true)
def stCF (n:Nat) (m:List (ah 0×ah 2)):Bool:=decide ((m.length:Int)=n)
def stSF (N:Li 19) (L:Li 0) (T:Li 35) (_:Unit):Bool:=lp (XP L T (fu N L)) (stCF T.length) (fu N L).length 0 []
def mg (N:Li 19) (I:Nat) (L S:Li 0) (T:Li 35) (lc ld lz lt:Int):Bool :=
 bif !jV N I L S T lc ld lz lt then false else lp (stSB N.length I T) (stSF N L T) T.length 0 ()
theorem JO {k v:Nat} (x:ah k) (y:ah v):∀ l:List (ah k×ah v),(fV l x y).length<=l.length+1
 |[]=>Nat.le_refl _
 |(a,u)::r=>by
   show List.length (if x=a then(x,y)::r else(a,u)::fV r x y)<=_
   by_cases h:x=a
   ·rw [if_pos h];exact Nat.le_succ _
   ·rw [if_neg h];exact Nat.succ_le_succ (JO x y r)
theorem JH {N:Li 19} {I:Nat} {L S:Li 0} {T:Li 35} {lc ld lz lt:Int} (h:jV N I L S T lc ld lz lt=true):L.length=N.length/\S.length=I:=by
 unfold jV at h
 cases hq:yh lc ld lz lt L.length S.length N.length I with
 |true =>
   have:=JG hq;omega
 |false=>rw [hq]at h;cases h
noncomputable def F_Dd:Fact E0:=bM 14 Proofs.Tryz.f14 rfl rfl rfl [.g dH,.g jP] (fun _ _ aj ak _ _ _ _ _ _ _ _ _ _ ay aB aI bJ bD aX dX=>.ob ((∀ k,k<aj.length->(gt 19 aj k).Align≠0)/\aj.length+aB.length+aI.length<=549755813888/\wF aj 0<=1099511627776/\(ay.length=aj.length->∀ k,k<(fu aj ay).length->Fv ay (gt 58 (fu aj ay) k))) (.b (mg aj ak.length ay aB aI bJ bD aX dX))) [F_Cw,F_Dl,F_Di,F_Dh,F_Df] [] (by
   intro _ _ aj ak _ _ _ _ _ _ _ _ _ _ ay aB aI bJ bD aX dX;refine fD rfl rfl fun hb hk=>?_
   generalize hz:mg aj ak.length ay aB aI bJ bD aX dX=rr
   repeat' first|(refine w_ ?_;first|(apply aP;focus (exact⟨hb.1,hb.2.1⟩))|refine bO bK trivial ?_)|apply B_<;>intro h hc|apply I_;intro h
   all_goals conv=>whnf
   ·unfold mg at hz;(repeat (first|replace hz:=qV (by assumption) hz|replace hz:=nE (by assumption) hz|replace hz:=wT (by first|assumption|omega) hz|replace hz:=wX (by first|assumption|omega) hz));subst hz;exact bA
   unfold mg at hz;replace hz:=nE (by assumption) hz
   have hl:=JH (by assumption)
   refine Or.inr (Or.inr ⟨[],[20,28,29,30,33,34,35,36,37,38,41,42,43,49,50,51,54,55,56,57,58,59,64,65],[],[],[2,3,18,19],[],?_⟩);conv=>whnf
   refine⟨fun(s:Int×Unit) (t:Unit)=>0<=s.1/\s.1<=aI.length/\rr=lp (stSB aj.length ak.length aI) (stSF aj ay aI) (aI.length-s.1.toNat) s.1.toNat (),fun(s:Int×Unit) _=>(aI.length-s.1).toNat,?_⟩
   conv=>whnf
   refine eZ.mk ⟨bg,bg,hz.symm⟩ bA ?_
   rintro⟨(k:Int),_⟩ _ ⟨h0,h1,hS⟩
   try dsimp only at h0 h1 hS
   obtain⟨k,rfl⟩:=cO h0;rw [bP]at hS
   repeat' first|(refine w_ ?_;first|(apply aP;focus (exact⟨Nat.le_of_eq hl.1.symm,hb.2.2.1⟩))|refine bO bK trivial ?_)|apply B_<;>intro h hc|apply I_;intro h
   all_goals conv=>whnf
   all_goals first
    |((try dsimp only);refine⟨au,au,hS.trans ((cK au).trans ?_)⟩;rw [show((k:Int)+1).toNat=k+1 by omega];symm;unfold stSB;(try dsimp only);all_goals exact lI)
    |((try dsimp only);refine Eq.trans ?_ (hS.trans (cK au)).symm;unfold stSB;(try dsimp only);all_goals exact lI)
    |skip
   replace hS:=hS.trans (iZ au)
   unfold stSF at hS;refine Or.inr (Or.inr ⟨[],[73],[],[2],[3,9,71,72],[],?_⟩);conv=>whnf
   refine⟨fun(s:Int×Unit) (t:List (ah 0×ah 2)×Unit)=>0<=s.1/\s.1<=(fu aj ay).length/\(t.1.length:Int)<=s.1/\rr=lp (XP ay aI (fu aj ay)) (stCF aI.length) ((fu aj ay).length-s.1.toNat) s.1.toNat t.1,fun(s:Int×Unit) _=>((fu aj ay).length-s.1).toNat,?_⟩
   conv=>whnf
   refine eZ.mk ⟨bg,bg,by simp,hS⟩ bA ?_
   rintro⟨(j:Int),_⟩ ⟨(m:List (ah 0×ah 2)),_⟩ ⟨g0,g1,gF,gS⟩
   try dsimp only at g0 g1 gF gS
   obtain⟨j,rfl⟩:=cO g0;rw [bP]at gS;have hn:=hb.2.2.2 hl.1 j
   repeat' first|(refine w_ ?_;first|(apply aP;focus (first|(intro hq<;>exact hn au (fun e=>absurd (hq.symm.trans e) (by decide)))|exact hn au))|refine bO bK trivial ?_)|apply B_<;>intro h hc|apply I_;intro h
   all_goals conv=>whnf
   all_goals first
    |((try dsimp only);refine⟨au,au,by first|omega|exact Int.le_trans (Int.ofNat_le.2 (JO _ _ _)) au,gS.trans ((cK au).trans ?_)⟩;rw [show((j:Int)+1).toNat=j+1 by omega];symm;unfold XP;(try dsimp only);all_goals exact lI)
    |((try dsimp only);refine Eq.trans ?_ (gS.trans (cK au)).symm;unfold XP;(try dsimp only);all_goals exact lI)
    |((try dsimp only);exact(gS.trans (iZ au)).symm))
end Go.SX
