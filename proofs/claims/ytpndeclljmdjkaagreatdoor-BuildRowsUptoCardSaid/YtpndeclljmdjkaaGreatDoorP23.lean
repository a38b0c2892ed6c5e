/- A part of the proof (texts B18, B28, BldC). -/
import Derived.Test.YtpndeclljmdjkaaGreatDoorP10
import Derived.Test.YtpndeclljmdjkaaGreatDoorP14
import Derived.Test.YtpndeclljmdjkaaGreatDoorP18
set_option linter.all false
set_option maxRecDepth 100000
namespace Go.SX
open Int renaming eq_ofNat_of_zero_le -> cO
open List renaming length -> ln
open Go.XK Go.RowKit
set_option maxHeartbeats 40000000
noncomputable section
abbrev gI (l:Li 0) (k:Nat):Int:=gt 0 l k
def P7 (N:Li 0) (c:bW):Int:=IntKind.i64.wrap (IntKind.i64.wrap (gI N c.r.To.N.toNat+c.r.To.Off)+c.r.Add)
def Le (c:bW) (x:Int):Bool:=zD 6 (IntKind.i64.wrap (x-c.at_))
def uE (N:Li 0) (c:bW):Bool:=decide (c.r.To.Kind=1) || !Le c (P7 N c)
def stOdd (N:Li 0) (c:bW):Bool:=decide (c.r.To.Kind=0)&&!decide ((IntKind.i64.wrap (P7 N c-c.at_)).tmod 8=0)
def pq (c:bW):fA:=bif decide (c.r.To.Kind=1)then⟨0,1,c.r.To.N,0⟩else⟨0,0,c.r.To.N,IntKind.i64.wrap (c.r.To.Off+c.r.Add)⟩
def Fv (N:Li 0) (c:bW):Prop:=c.r.To.Kind≠1->0<=c.r.To.N/\c.r.To.N<(N.length:Int)
def F_Dg:Fact E0:=bM 144 Proofs.Tryz.f144 rfl rfl rfl [.g lX,.g jP] (fun qY qW iX dY jE gQ eF kG ay _ _ _ _ _ _=>.ob (0<=jE/\jE<(ay.length:Int)) (.i (P7 ay (⟨qY,⟨qW,iX,⟨dY,jE,gQ,eF⟩,kG⟩⟩:bW)))) [] [] kI
def F_Dj:Fact E0:=bM 145 Proofs.Tryz.f145 rfl rfl rfl [.g lX,.i] (fun qY qW iX dY jE gQ eF kG x=>.ok (.b (Le (⟨qY,⟨qW,iX,⟨dY,jE,gQ,eF⟩,kG⟩⟩:bW) x))) [F_DC] [] kI
def F_Di:Fact E0:=bM 48 Proofs.Tryz.f48 rfl rfl rfl [.g lX,.g jP] (fun qY qW iX dY jE gQ eF kG ay _ _ _ _ _ _=>.ob (dY=0->0<=jE/\jE<(ay.length:Int)) (.b (stOdd ay (⟨qY,⟨qW,iX,⟨dY,jE,gQ,eF⟩,kG⟩⟩:bW)))) [F_Dg] [] (by
   repeat intro _
   refine fD rfl rfl fun hb hk=>?_
   repeat' first|(refine w_ ?_;first|(apply aP;focus (intro hq<;>exact hb (of_decide_eq_true hq)))|refine bO bK @hb ?_)|apply B_<;>intro h hc|apply I_;intro h
   all_goals conv=>whnf
   all_goals rfl)
def F_Dh:Fact E0:=bM 49 Proofs.Tryz.f49 rfl rfl rfl [.g lX,.g jP] (fun qY qW iX dY jE gQ eF kG ay _ _ _ _ _ _=>.ob (Fv ay (⟨qY,⟨qW,iX,⟨dY,jE,gQ,eF⟩,kG⟩⟩:bW)) (.b (uE ay (⟨qY,⟨qW,iX,⟨dY,jE,gQ,eF⟩,kG⟩⟩:bW)))) [F_Dg,F_Dj] [] (by
   repeat intro _
   refine fD rfl rfl fun hb hk=>?_
   repeat' first|(refine w_ ?_;first|(apply aP;focus (intro hq<;>exact hb (of_decide_eq_false hq)))|refine bO bK trivial ?_)|apply B_<;>intro h hc|apply I_;intro h
   all_goals conv=>whnf
   all_goals rfl)
def F_Dk:Fact E0:=bM 146 Proofs.Tryz.f146 rfl rfl rfl [.g lX] (fun qY qW iX dY jE gQ eF kG=>.ok (.agg [.i (pq (⟨qY,⟨qW,iX,⟨dY,jE,gQ,eF⟩,kG⟩⟩:bW)).At,.i (pq (⟨qY,⟨qW,iX,⟨dY,jE,gQ,eF⟩,kG⟩⟩:bW)).Kind,.i (pq (⟨qY,⟨qW,iX,⟨dY,jE,gQ,eF⟩,kG⟩⟩:bW)).N,.i (pq (⟨qY,⟨qW,iX,⟨dY,jE,gQ,eF⟩,kG⟩⟩:bW)).Off])) [] [] (by
   intro qY qW iX dY jE gQ eF kG;refine dP rfl rfl fun hk=>?_
   generalize hz:pq (⟨qY,⟨qW,iX,⟨dY,jE,gQ,eF⟩,kG⟩⟩:bW)=z
   repeat' first|refine dM ?_|apply B_<;>intro h hc|apply I_;intro h
   all_goals conv=>whnf
   all_goals (unfold pq at hz;(repeat (first|replace hz:=qV (by assumption) hz|replace hz:=nE (by assumption) hz|replace hz:=wT (by first|assumption|omega) hz|replace hz:=wX (by first|assumption|omega) hz));subst hz;exact bA))
def Nw (c:bW) (s:fA):Bool:=(decide (s.At=s.At)&&(decide (s.Kind=(pq c).Kind)&&(decide (s.N=(pq c).N)&&(decide (s.Off=(pq c).Off)&&true))))&&Le c s.At
def uF (c:bW) (l:Li 35) (k:Nat) (_:Unit) (next:Unit->Int):Int:=bif Nw c (gt 35 l k)then(k:Int)else next ()
def zw (_:Unit):Int:=-1
def mh (c:bW) (l:Li 35):Int:=lp (uF c l) zw l.length 0 ()
def I_GB:je E0:=kC 147 Proofs.Tryz.f147 rfl rfl
def I_GG:je E0:=kC 148 Proofs.Tryz.f148 rfl rfl
def F_Df:Fact E0:=bM 50 Proofs.Tryz.f50 rfl rfl rfl [.g lX,.l 35] (fun qY qW iX dY jE gQ eF kG l=>.ok (.i (mh (⟨qY,⟨qW,iX,⟨dY,jE,gQ,eF⟩,kG⟩⟩:bW) l))) [F_Dk,F_Dj] [I_GB,I_GG] (by
   intro qY qW iX dY jE gQ eF kG l;refine dP rfl rfl fun hk=>?_
   simp only [know]at hk
   repeat' first|refine dM ?_|apply B_<;>intro h hc|apply I_;intro h
   all_goals conv=>whnf
   refine Or.inr (Or.inr ⟨[],[8],[],[1],[0,1,7],[],?_⟩);conv=>whnf
   refine⟨fun(s:Int×Unit) (t:(Int×Int×Int×Int×Unit)×Unit)=>0<=s.1/\s.1<=l.length/\t.1.2=((pq (⟨qY,⟨qW,iX,⟨dY,jE,gQ,eF⟩,kG⟩⟩:bW)).Kind,(pq (⟨qY,⟨qW,iX,⟨dY,jE,gQ,eF⟩,kG⟩⟩:bW)).N,(pq (⟨qY,⟨qW,iX,⟨dY,jE,gQ,eF⟩,kG⟩⟩:bW)).Off,())/\mh (⟨qY,⟨qW,iX,⟨dY,jE,gQ,eF⟩,kG⟩⟩:bW) l=lp (uF (⟨qY,⟨qW,iX,⟨dY,jE,gQ,eF⟩,kG⟩⟩:bW) l) zw (l.length-s.1.toNat) s.1.toNat (),fun(s:Int×Unit) _=>(l.length-s.1).toNat,?_⟩
   conv=>whnf
   refine eZ.mk ⟨bg,bg,rfl,rfl⟩ bA ?_
   rintro⟨(k:Int),_⟩ ⟨⟨(at1:Int),_⟩,_⟩ ⟨h0,h1,rfl,hS⟩
   try dsimp only at h0 h1 hS
   obtain⟨k,rfl⟩:=cO h0;rw [Int.toNat_natCast]at hS
   repeat' first|refine dM ?_|apply B_<;>intro h hc|apply I_;intro h
   all_goals conv=>whnf
   all_goals first
    |((try dsimp only);refine⟨au,au,rfl,hS.trans ((cK au).trans ?_)⟩;rw [show((k:Int)+1).toNat=k+1 by omega];symm;unfold uF Nw;(try dsimp only);all_goals exact lI)
    |((try dsimp only);refine Eq.trans ?_ (hS.trans (cK au)).symm;unfold uF Nw;(try dsimp only);all_goals exact lI)
    |((try dsimp only);refine Eq.trans ?_ (hS.trans (iZ au)).symm;rfl))
theorem lenN {c:Nat} (p:Li c) (x:ah c):(p++[x]).length=p.length+1:=by simp
def refL (n:ah 19):Nat:=(aM.Refs n).length
def wF (N:Li 19) (k:Nat):Nat:=((N.drop k).map refL).sum
theorem Ya {N:Li 19} {k:Nat} (h:k<N.length):wF N k=(gt 19 N k).Refs.length+wF N (k+1):=by
 show wF N k=refL (gt 19 N k)+wF N (k+1);unfold wF
 have e:gt 19 N k=N[k]:=by
   show N.getD k _=_;rw [List.getD_eq_getElem?_getD,List.getElem?_eq_getElem h];rfl
 rw [List.drop_eq_getElem_cons h,List.map_cons,List.sum_cons,<- e]
def pz (L:Li 0) (i:Nat) (r:gX):ah 58:=(⟨IntKind.i64.wrap (gI L i+r.At),r⟩:bW)
def Ap (L:Li 0) (i:Nat) (R:Li 7) (k:Nat) (o:Li 58) (next:Li 58->Li 58):Li 58 :=
 bif decide ((gt 7 R k).Kind=6)then next (o++[pz L i (gt 7 R k)])else next o
def vo (o:Li 58):Li 58:=o
def XO (L:Li 0) (i:Nat) (R:Li 7) (o:Li 58):Li 58:=lp (Ap L i R) vo (@ln (ah 7) R) 0 o
def Ny (N:Li 19) (L:Li 0) (k:Nat) (o:Li 58) (next:Li 58->Li 58):Li 58:=next (XO L k (gt 19 N k).Refs o)
def fu (N:Li 19) (L:Li 0):Li 58:=lp (Ny N L) vo N.length 0 []
def F_Dl:Fact E0:=bM 47 Proofs.Tryz.f47 rfl rfl rfl [.g dH,.g jP] (fun _ _ aj _ _ _ _ _ _ _ _ _ _ _ ay _ _ _ _ _ _=>.ob (aj.length<=ay.length/\wF aj 0<=1099511627776) (.aW none 58 (fu aj ay))) [] [] (by
   intro _ _ aj _ _ _ _ _ _ _ _ _ _ _ ay
   repeat intro _
   refine fD rfl rfl fun hb hk=>?_
   generalize hz:fu aj ay=rr
   repeat' first|refine dM ?_|apply B_<;>intro h hc|apply I_;intro h
   all_goals conv=>whnf
   refine Or.inr (Or.inr ⟨[(5,118,58)],[5,13],[],[],[3,11,12],[],?_⟩);conv=>whnf
   refine⟨fun(s:Unit×Int×Unit) (t:Li 58×Unit)=>0<=s.2.1/\s.2.1<=aj.length/\t.1.length+wF aj s.2.1.toNat<=1099511627776/\rr=lp (Ny aj ay) vo (aj.length-s.2.1.toNat) s.2.1.toNat t.1,fun(s:Unit×Int×Unit) _=>(aj.length-s.2.1).toNat,?_⟩
   conv=>whnf
   refine eZ.mk ⟨bg,bg,by simpa using hb.2,hz.symm⟩ bA ?_
   rintro⟨_,(k:Int),_⟩ ⟨(o:Li 58),_⟩ ⟨h0,h1,hF,hS⟩
   try dsimp only at h0 h1 hF hS
   obtain⟨k,rfl⟩:=cO h0;rw [Int.toNat_natCast]at hS hF;have hg:k<aj.length->wF aj k=@ln (ah 7) (gt 19 aj k).Refs+wF aj (k+1):=Ya
   repeat' first|refine dM ?_|apply B_<;>intro h hc|apply I_;intro h
   all_goals conv=>whnf
   ·refine Or.inr (Or.inr ⟨[],[5,21],[],[],[3,6,11,12,13,19,20],[2],?_⟩);conv=>whnf
    refine⟨fun(s:Unit×Int×Unit) (t:Li 58×Unit)=>0<=s.2.1/\s.2.1<=@ln (ah 7) (gt 19 aj k).Refs/\t.1.length+(@ln (ah 7) (gt 19 aj k).Refs-s.2.1.toNat)+wF aj (k+1)<=1099511627776/\XO ay k (gt 19 aj k).Refs o=lp (Ap ay k (gt 19 aj k).Refs) vo (@ln (ah 7) (gt 19 aj k).Refs-s.2.1.toNat) s.2.1.toNat t.1,fun(s:Unit×Int×Unit) _=>(@ln (ah 7) (gt 19 aj k).Refs-s.2.1).toNat,?_⟩
    conv=>whnf
    have hg1:=hg au
    refine eZ.mk ⟨bg,bg,by show o.length+(@ln (ah 7) (gt 19 aj k).Refs-0)+wF aj (k+1)<=1099511627776;omega,rfl⟩ bA ?_
    rintro⟨_,(j:Int),_⟩ ⟨(p:Li 58),_⟩ ⟨g0,g1,gF,gS⟩
    try dsimp only at g0 g1 gF gS
    obtain⟨j,rfl⟩:=cO g0;rw [Int.toNat_natCast]at gS gF
    repeat' first|(refine w_ ?_;first|(apply aP;focus (first|(show(_+1)*64<=_<;>omega)|(constructor<;>omega)))|refine bO bK trivial ?_)|apply B_<;>intro h hc|apply I_;intro h
    all_goals conv=>whnf
    all_goals first
     |((try dsimp only);refine⟨au,au,?_,gS.trans ((cK au).trans ?_)⟩;(rw [show((j:Int)+1).toNat=j+1 by omega];first|omega|(refine Nat.le_trans (Nat.le_of_eq (congrArg (fun n=>n+(@ln (ah 7) (gt 19 aj k).Refs-(j+1))+wF aj (k+1)) (lenN (c:=58) p _))) ?_;show p.length+1+(@ln (ah 7) (gt 19 aj k).Refs-(j+1))+wF aj (k+1)<=1099511627776;omega));rw [show((j:Int)+1).toNat=j+1 by omega];symm;unfold Ap;(try dsimp only);all_goals exact lI)
     |(have gI:=gS.trans (iZ au);(try dsimp only);refine⟨au,au,?_,hS.trans ((cK au).trans ?_)⟩;(rw [show((k:Int)+1).toNat=k+1 by omega];omega);rw [show((k:Int)+1).toNat=k+1 by omega];unfold Ny;rw [gI];rfl)
   ·refine⟨Or.inl rfl,?_⟩
    exact(hS.trans (iZ au)).symm)
def wE (w:oO):Int:=IntKind.i64.wrap (w.S+w.A)
def Ej (k:Int) (w:oO):Int :=
 bif decide (k=0)then wE w else bif decide (k=10)then wE w else bif decide (k=12)then wE w
 else bif decide (k=1)then IntKind.i64.wrap (wE w-w.P)else bif decide (k=2)then IntKind.i64.wrap (wE w-w.P)
 else bif decide (k=3)then(bif !decide ((IntKind.i64.wrap (wE w-w.UC)).tmod 8=0)then -1 else IntKind.i64.wrap ((IntKind.i64.wrap (wE w-w.UC)).tdiv 8))
 else bif decide (k=4)then IntKind.i64.wrap (w.Size+w.A)
 else bif decide (k=5)then IntKind.i64.wrap (wE w-w.I)else bif decide (k=6)then IntKind.i64.wrap (wE w-w.I)
 else bif decide (k=7)then IntKind.i64.wrap (w.Slot-w.I)
 else bif decide (k=8)then IntKind.i64.wrap (IntKind.i32.wrap (wE w))else bif decide (k=9)then(wE w).fdiv (2 ^ (32:Nat))else bif decide (k=11)then w.S else 0
def F_DE:Fact E0:=bM 160 Proofs.Tryz.f160 rfl rfl rfl [.i,.g zH] (fun k wS wA wP wI wBegin wSize wSlot=>.ok (.i (Ej k (⟨wS,wA,wP,wI,wBegin,wSize,wSlot⟩:oO)))) [] [] (by
   repeat intro _
   refine dP rfl rfl fun hk=>?_
   repeat' first|refine dM ?_|apply B_<;>intro h hc|apply I_;intro h
   all_goals conv=>whnf
   all_goals first|(exfalso;simp_all;done)|(unfold Ej;all_goals exact lI))
def DJ (N:Li 19) (L:Li 0) (node ref:Int):bW:=⟨IntKind.i64.wrap (gI L node.toNat+(gt 7 (gt 19 N node.toNat).Refs ref.toNat).At),gt 7 (gt 19 N node.toNat).Refs ref.toNat⟩
def l9 (N:Li 19) (L:Li 0) (T:Li 35) (node ref:Int):Int×Bool :=
 bif decide (node<0)||decide ((N.length:Int)<=node)||decide (ref<0)||decide (((gt 19 N node.toNat).Refs.length:Int)<=ref) || !decide ((gt 7 (gt 19 N node.toNat).Refs ref.toNat).Kind=6)then(0,false)
 else bif !uE L (DJ N L node ref)then(-1,true)else(max (mh (DJ N L node ref) T) 0,decide (0<=mh (DJ N L node ref) T))
def F_De:Fact E0:=bM 159 Proofs.Tryz.f159 rfl rfl rfl [.g dH,.g jP,.i,.i] (fun _ _ aj _ _ _ _ _ _ _ _ _ _ _ ay _ aI _ _ _ _ node ref=>.ob (aj.length<=ay.length/\(0<=node->0<=ref->Fv ay (DJ aj ay node ref))) (.jm [.i (l9 aj ay aI node ref).1,.b (l9 aj ay aI node ref).2])) [F_Dh,F_Df] [] (by
   intro _ _ aj _ _ _ _ _ _ _ _ _ _ _ ay _ aI _ _ _ _ node ref;refine fD rfl rfl fun hb hk=>?_
   generalize hz:l9 aj ay aI node ref=rr
   repeat' first|(refine w_ ?_;first|(apply aP;focus (exact hb.2 au au))|refine bO bK trivial ?_)|apply B_<;>intro h hc|apply I_;intro h
   all_goals conv=>whnf
   all_goals (unfold l9 DJ at hz;(repeat (first|replace hz:=qV (by assumption) hz|replace hz:=nE (by assumption) hz|replace hz:=wT (by first|assumption|omega) hz|replace hz:=wX (by first|assumption|omega) hz));subst hz;exact bA))
theorem ex3 {α β:Type} {F m q:α×β->Prop} (a:α) {b:β} (hq:q (a,b)) (hm:m (a,b)) (hF:F (a,b)):∃ s,F s/\m s/\q s:=⟨(a,b),hF,hm,hq⟩
def rC {α:Type} (s:α):α:=s
abbrev oD (a b:Int):Int:=IntKind.i64.wrap (a+b)
abbrev nJ (l:Li 0) (k:Nat):Int:=gt 0 l k
def Ji (lN:Li 0) (t:bE) (o:Int):Int:=bif !decide (t.Kind=0)then o else oD (nJ lN t.N.toNat) t.Off
def BR (lN:Li 0) (t:bE):Prop:=t.Kind=0->0<=t.N/\t.N<(@ln (ah 0) lN:Nat)
abbrev Cv (N:Li 19) (node ref:Int):gX:=gt 7 (gt 19 N node.toNat:aM).Refs ref.toNat
def bSlot (lS:Li 0) (t:bE):Int:=bif decide (t.Kind=1)then nJ lS t.N.toNat else 0
def Kw (lN lS:Li 0) (node:Int) (r:gX):oO:=⟨Ji lN r.To 0,r.Add,oD (nJ lN node.toNat) r.At,oD (nJ lN node.toNat) r.At,nJ lN node.toNat,r.To.Size,bSlot lS r.To⟩
def Wj (N:Li 19) (lN lS:Li 0) (T:Li 35) (node ref:Int):Int :=
 bif decide ((Cv N node ref).Kind=6)then(bif decide (0<=(l9 N lN T node ref).1)then IntKind.i64.wrap ((gt 35 T (l9 N lN T node ref).1.toNat:fA).At-(Kw lN lS node (Cv N node ref)).I)else Ej (Cv N node ref).Kind (Kw lN lS node (Cv N node ref)))else Ej (Cv N node ref).Kind (Kw lN lS node (Cv N node ref))
structure WhOk (lN lS:Li 0) (node:Int) (r:gX):Prop where
 n0:0<=node/\node<(@ln (ah 0) lN:Nat)
 tg:BR lN r.To
 im:r.To.Kind=1->0<=r.To.N/\r.To.N<(@ln (ah 0) lS:Nat)
structure BRef (N:Li 19) (lN lS:Li 0) (T:Li 35) (node ref:Int):Prop where
 n0:0<=node/\node<(@ln (ah 19) N:Nat)
 r0:0<=ref/\ref<(@ln (ah 7) (gt 19 N node.toNat:aM).Refs:Nat)
 wh:WhOk lN lS node (Cv N node ref)
 le:@ln (ah 19) N<=@ln (ah 0) lN
 sv:(Cv N node ref).Kind=6->Fv lN (DJ N lN node ref)
 sl:(Cv N node ref).Kind=6->0<=(l9 N lN T node ref).1->(l9 N lN T node ref).1<(@ln (ah 35) T:Nat)
structure NdOk (N:Li 19) (lN lS:Li 0) (T:Li 35) (nb:Nat) (i:Int):Prop where
 i0:0<=i/\i<(@ln (ah 19) N:Nat)
 il:i<(@ln (ah 0) lN:Nat)
 refs:∀ k:Nat,k<@ln (ah 7) (gt 19 N i.toNat:aM).Refs->BRef N lN lS T i k
 nr:@ln (ah 7) (gt 19 N i.toNat:aM).Refs<=1048576
 Dk:(gt 19 N i.toNat:aM).Kind=0\/(gt 19 N i.toNat:aM).Kind=1->0<=nJ lN i.toNat/\nJ lN i.toNat+((gt 19 N i.toNat:aM).Bytes.size:Int)<=(nb:Int)
 tl:(gt 19 N i.toNat:aM).Kind=3->0<=nJ lN i.toNat/\((gt 19 N i.toNat:aM).Bytes.size:Int)<=(gt 19 N i.toNat:aM).Size/\nJ lN i.toNat+(gt 19 N i.toNat:aM).Size<=1099511627776
abbrev Yk:List Sh:=[.s,.b,.l 19,.l 21,.l 23,.l 6,.l 6,.l 1,.i,.i,.i,.i,.l 27,.l 31,.l 0,.l 0,.l 35,.i,.i,.i,.i,.s,.b,.i,.i,.i,.s,.s,.i,.l 38,.l 40,.l 21,.l 0,.l 0,.l 42,.l 0,.l 0,.i,.l 1,.l 27,.l 9,.l 11,.l 44,.l 13,.l 46,.l 17,.l 49,.l 3,.l 3,.b]
abbrev Ee (uName:ByteArray) (eO:Bool) (aj:Li 19) (ak:Li 21) (aJ:Li 23) (aT:Li 6) (aS:Li 6) (aY:Li 1) (aG:Int) (aU:Int) (aL:Int) (aF:Int) (aH:Li 27) (aD:Li 31) (ay:Li 0) (aB:Li 0) (aI:Li 35) (bJ:Int) (bD:Int) (aX:Int) (dX:Int) (mA:ByteArray) (mB:Bool) (mC:Int) (mD:Int) (mE:Int) (mF:ByteArray) (mG:ByteArray) (mH:Int) (nNodes:Nat) (Y3:Nat) (mK:Li 21) (mL:Li 0) (nStubs:Nat) (nDyns:Nat) (nInits:Nat) (nLasts:Nat) (mQ:Int) (mR:Li 1) (mS:Li 27) (QA:Nat) (QB:Nat) (Vt:Nat) (Mf:Nat) (Vs:Nat) (N7:Nat) (Y4:Nat) (nbytes ntls:Nat) (ok:Bool):HB:=.row 80 [.str uName,.b eO,.aW none 19 aj,.aW none 21 ak,.aW none 23 aJ,.aW none 6 aT,.aW none 6 aS,.aW none 1 aY,.i aG,.i aU,.i aL,.i aF,.aW none 27 aH,.aW none 31 aD,.aW none 0 ay,.aW none 0 aB,.aW none 35 aI,.i bJ,.i bD,.i aX,.i dX,.str mA,.b mB,.i mC,.i mD,.i mE,.str mF,.str mG,.i mH,.bT nNodes,.bT Y3,.aW none 21 mK,.aW none 0 mL,.bT nStubs,.bT nDyns,.bT nInits,.bT nLasts,.i mQ,.aW none 1 mR,.aW none 27 mS,.bT QA,.bT QB,.bT Vt,.bT Mf,.bT Vs,.bT N7,.bT Y4,.bT nbytes,.bT ntls,.b ok]
def F_AA:Fact E0:=bM 15 Proofs.Tryz.f15 rfl rfl rfl [.p Yk,.g fC,.i] (fun _ _ _ _ _ _ _ _ _ _ _ _ _ _ ay _ _ _ _ _ _ _ _ _ _ _ _ _ _ _ _ _ _ _ _ _ _ _ _ _ _ _ _ _ _ _ _ _ _ _ nM tN zu qI o=>.ob (BR ay (⟨nM,tN,zu,qI⟩:bE)) (.i (Ji ay (⟨nM,tN,zu,qI⟩:bE) o))) [] [] (by
   repeat intro _
   refine fD rfl rfl fun hb hk=>?_
   repeat' first|(refine w_ ?_;first|(apply aP;focus (first|exact hb (by simpa using hc)|exact hb (by simpa using h)))|refine bO bK trivial ?_)|apply B_<;>intro h hc|apply I_;intro h
   all_goals conv=>whnf
   all_goals (unfold Ji;(repeat (first|exact rfl|refine gW (by assumption) ?_|refine gB (by assumption) ?_|refine jY (by first|assumption|omega) ?_|refine jZ (by first|assumption|omega) ?_))))
def I_Es:je E0:=kC 15 Proofs.Tryz.f15 rfl rfl
def I_Eu:je E0:=kC 155 Proofs.Tryz.f155 rfl rfl
def I_Et:je E0:=kC 56 Proofs.Tryz.f56 rfl rfl
def F_AJ:Fact E0:=bM 155 Proofs.Tryz.f155 rfl rfl rfl [.p Yk,.i,.g zH] (fun _ _ _ _ _ _ _ _ _ _ _ _ _ _ ay aB _ _ _ _ _ _ _ _ _ _ _ _ _ _ _ _ _ _ _ _ _ _ _ _ _ _ _ _ _ _ _ _ _ _ node pX dB dn jM dV dh jc=>.ob (WhOk ay aB node (⟨pX,dB,⟨dn,jM,dV,dh⟩,jc⟩:gX)) (.agg [.i (Kw ay aB node (⟨pX,dB,⟨dn,jM,dV,dh⟩,jc⟩:gX)).S,.i (Kw ay aB node (⟨pX,dB,⟨dn,jM,dV,dh⟩,jc⟩:gX)).A,.i (Kw ay aB node (⟨pX,dB,⟨dn,jM,dV,dh⟩,jc⟩:gX)).P,.i (Kw ay aB node (⟨pX,dB,⟨dn,jM,dV,dh⟩,jc⟩:gX)).I,.i (Kw ay aB node (⟨pX,dB,⟨dn,jM,dV,dh⟩,jc⟩:gX)).UC,.i (Kw ay aB node (⟨pX,dB,⟨dn,jM,dV,dh⟩,jc⟩:gX)).Size,.i (Kw ay aB node (⟨pX,dB,⟨dn,jM,dV,dh⟩,jc⟩:gX)).Slot])) [F_AA] [] (by
   repeat intro _
   refine fD rfl rfl fun hb hk=>?_
   obtain⟨h1,h2,h3⟩:=hb
   repeat' first|(refine w_ ?_;first|(apply aP;focus (first|exact h3 (by simpa using hc)|exact h1))|refine bO bK @h2 ?_)|apply B_<;>intro h hc|apply I_;intro h
   all_goals conv=>whnf
   all_goals (refine w_ ?_;repeat' (first|((with_reducible apply And.intro)<;>(first|(with_reducible refine iK ?_;apply rfl)|(with_reducible refine eY ?_;apply rfl)|(refine w_ ?_)))|(with_reducible apply trivial)|apply rfl|apply(Or.inl rfl)|apply(Or.inr rfl)|apply(Or.inr (Or.inl rfl))|apply trivial|(apply And.intro<;>(refine w_ ?_))))
   all_goals (unfold Kw bSlot;first|exact gW (by assumption) rfl|exact gB (by assumption) rfl))
end
end Go.SX
