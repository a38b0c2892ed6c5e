/- A part of the proof (texts B58, B59). -/
import Derived.Test.YtpndeclljmdjkaaGreatDoorP08
import Derived.Test.YtpndeclljmdjkaaGreatDoorP10
import Derived.Test.YtpndeclljmdjkaaGreatDoorP14
import Derived.Test.YtpndeclljmdjkaaGreatDoorP26
set_option linter.all false
set_option maxRecDepth 100000
namespace Go.SX
open List renaming replicate -> dJ
open Int renaming toNat_natCast -> bP
open List renaming length -> ln
open Go.XK Go.RowKit
set_option maxHeartbeats 40000000
abbrev c32:Int:=((UInt64.ofNat 32).toNat:Int)
def JM (x y:UInt64):UInt64:=iI x c32*iI y c32+iI (iI x c32*(y &&& UInt64.ofNat 4294967295)+iI ((x &&& UInt64.ofNat 4294967295)*(y &&& UInt64.ofNat 4294967295)) c32) c32+iI ((iI x c32*(y &&& UInt64.ofNat 4294967295)+iI ((x &&& UInt64.ofNat 4294967295)*(y &&& UInt64.ofNat 4294967295)) c32 &&& UInt64.ofNat 4294967295)+(x &&& UInt64.ofNat 4294967295)*iI y c32) c32
theorem Vv {n:Nat} (h:n<4294967296):JM (UInt64.ofInt 1) (UInt64.ofInt n)=UInt64.ofNat 0:=by
 have e1:UInt64.ofInt 1=UInt64.ofNat 1:=rfl
 have e2:UInt64.ofInt (n:Int)=UInt64.ofNat n:=by
   apply UInt64.toNat.inj;have:=ofInt64 (n:Int);rw [UInt64.toNat_ofNat_of_lt' (by show n<2 ^ 64;omega)]
   omega
 rw [e1,e2];have s1:iI (UInt64.ofNat 1) 32=UInt64.ofNat 0:=by decide
 have m1:UInt64.ofNat 1 &&& UInt64.ofNat 4294967295=UInt64.ofNat 1:=by decide
 have tn:(UInt64.ofNat n).toNat=n:=UInt64.toNat_ofNat_of_lt' (by show n<2 ^ 64;omega)
 have s2:iI (UInt64.ofNat n) 32=UInt64.ofNat 0:=by
   unfold iI;rw [tn];show UInt64.ofNat (n >>> 32)=_;rw [Nat.shiftRight_eq_div_pow,Nat.div_eq_of_lt (by exact h)]
 have m2:UInt64.ofNat n &&& UInt64.ofNat 4294967295=UInt64.ofNat n:=by
   apply UInt64.toNat.inj;rw [UInt64.toNat_and,tn];show n &&& (2 ^ 32-1)=n;rw [Nat.and_two_pow_sub_one_eq_mod];omega
 have z1:∀ x:UInt64,UInt64.ofNat 0*x=UInt64.ofNat 0:=fun x=>by show 0*x=0;exact UInt64.zero_mul
 have z2:∀ x:UInt64,UInt64.ofNat 0+x=x:=fun x=>UInt64.zero_add _
 have z3:∀ x:UInt64,x+UInt64.ofNat 0=x:=fun x=>UInt64.add_zero _
 have z4:∀ x:UInt64,x*UInt64.ofNat 0=UInt64.ofNat 0:=fun x=>by show x*0=0;exact UInt64.mul_zero
 have o1:∀ x:UInt64,UInt64.ofNat 1*x=x:=fun x=>by show 1*x=x;exact UInt64.one_mul x
 have s0:iI (UInt64.ofNat 0) 32=UInt64.ofNat 0:=by decide
 have m0:UInt64.ofNat 0 &&& UInt64.ofNat 4294967295=UInt64.ofNat 0:=by decide
 unfold JM;show iI _ 32*iI _ 32+iI (iI _ 32*_+iI _ 32) 32+iI ((iI _ 32*_+iI _ 32 &&& _)+_*iI _ 32) 32=_;rw [s1,m1,m2,s2,o1,o1];simp only [z1,z2,z3,z4,s2,s0,m0]
theorem Vu {n:Nat} (h:n<4294967296):UInt64.ofInt 1*UInt64.ofInt n=UInt64.ofInt n:=by
 show 1*UInt64.ofInt n=_;exact UInt64.one_mul _
theorem Vm {n:Nat} (h:n<4294967296):(UInt64.ofInt (n:Int)).toNat=n:=by
 have:=ofInt64 (n:Int);omega
def nK (k n:Nat):List Int:=dJ k (-1)++dJ (n-k) 0
theorem Gb {k n:Nat} (h:k<=n):(nK k n).length=n:=by unfold nK;simp;omega
theorem Va {k n:Nat} (h:k<=n):vS (nK k n) k n ((nK k n).take k)=nK (k+min (n-k) k) n:=by
 have e1:(nK k n).take k=dJ k (-1):=by unfold nK;rw [List.take_left' (List.length_replicate ..)]
 unfold vS;rw [e1,List.length_replicate];unfold nK;rw [List.take_replicate,List.drop_append,List.drop_replicate,List.drop_replicate,List.length_replicate];rw [<- List.replicate_append_replicate (n:=k) (m:=min (n-k) k),show k-(k+min (n-k) k)=0 by omega,List.replicate_zero,List.nil_append]
 rw [show n-k-(k+min (n-k) k-k)=n-(k+min (n-k) k)by omega]
theorem ND (n:Nat):nK n n=dJ n (-1):=by unfold nK;rw [Nat.sub_self];simp
theorem Qj (n:Nat):vS (dJ n (0:Int)) 0 n [-1]=nK (min n 1) n:=by
 unfold vS nK
 cases n with
 |zero=>rfl
 |succ n=>simp [List.replicate_succ]
noncomputable def F_Bh:Fact E0:=bM 424 Proofs.Tryz.f424 rfl rfl rfl [.jg,.jg] (fun x y=>.ok (.jm [.jg (JM x y),.jg (x*y)])) [] [] (by
   repeat intro _
   refine dP rfl rfl fun hk=>?_
   repeat' first|refine dM ?_|apply B_<;>intro h hc|apply I_;intro h
   all_goals conv=>whnf
   all_goals exact bA)
noncomputable def F_Bg:Fact E0:=bM 403 Proofs.Tryz.f403 rfl rfl rfl [.jg,.jg] (fun x y=>.ok (.jm [.jg (JM x y),.jg (x*y)])) [F_Bh] [] (by
   repeat intro _
   refine dP rfl rfl fun hk=>?_
   repeat' first|refine dM ?_|apply B_<;>intro h hc|apply I_;intro h
   all_goals conv=>whnf
   all_goals exact bA)
theorem hc_rep {z:Option Bool} {n:Nat} (hn:n<=262144):HC E0 359 1 [.bT 0,.i (n:Int)] [(0,.arr 3 z 0 [(-1:Int)])] (fun s H n_=>s=.bT 1/\H=[(0,.arr 3 z 0 [(-1:Int)]),(1,.arr 3 none 0 (dJ (α:=Int) n (-1)))]/\n_=2):=by
 refine dG (DB:=[F_Bg]) (IL:=[]) (WL:=[]) (fn:=Proofs.Tryz.f359) rfl rfl rfl rfl (by unfold dA;kernel_rfl) (fun hk=>?_)
 simp only [know]at hk;have hd0:decide ((n:Int)<0)=false:=decide_eq_false au
 have q1:=Vv (n:=n) au
 have q2:=Vu (n:=n) au
 have q3:=Vm (n:=n) au
 have q1':JM (UInt64.ofInt (@ln (ah 0) [(-1:Int)]:Nat)) (UInt64.ofInt n)=UInt64.ofNat 0:=q1;have q2':UInt64.ofInt (@ln (ah 0) [(-1:Int)]:Nat)*UInt64.ofInt n=UInt64.ofInt n:=q2
 have hd1:(decide (UInt64.ofNat 0<JM (UInt64.ofInt (@ln (ah 0) [(-1:Int)]:Nat)) (UInt64.ofInt n))||decide (UInt64.ofNat 9223372036854775807<UInt64.ofInt (@ln (ah 0) [(-1:Int)]:Nat)*UInt64.ofInt n))=false:=by
   rw [q1',q2',Bool.or_eq_false_iff];refine⟨by decide,decide_eq_false fun h=>?_⟩
   have h2:(UInt64.ofNat 9223372036854775807).toNat<(UInt64.ofInt n).toNat:=UInt64.lt_iff_toNat_lt.1 h;rw [q3]at h2;have h3:(UInt64.ofNat 9223372036854775807).toNat=9223372036854775807:=rfl;omega
 have hW:IntKind.i64.wrap ((UInt64.ofInt (@ln (ah 0) [(-1:Int)]:Nat)*UInt64.ofInt n).toNat:Int)=n:=by
   rw [q2',q3];exact kZ ⟨au,au⟩
 repeat' first|refine dM ?_|apply B_<;>intro h hc|apply I_;intro h
 all_goals conv=>whnf
 rw [hW];have hmk:0<=(n:Int)/\(n:Int)=n/\(n:Int)*(8:Nat)<=140737488355328:=⟨au,rfl,au⟩
 repeat' first|(refine w_ ?_;first|(apply aP;focus (exact hmk))|refine bO bK trivial ?_)|apply B_<;>intro h hc|apply I_;intro h
 all_goals conv=>whnf
 refine Or.inr (Or.inr ⟨[],[8],[],[1],[7],[],?_⟩);conv=>whnf
 refine⟨fun(s:Int×Unit) (t:Li 0×Unit)=>∃ k:Nat,s.1=k/\k<=n/\(k=0->n=0)/\t.1=nK k n,fun(s:Int×Unit) _=>(n-s.1).toNat,?_⟩
 conv=>whnf
 refine eZ.mk ⟨min n 1,?_,au,au,?_⟩ bA ?_
 ·show((min ((dJ (α:=Int) (n:Int).toNat 0).length-0) 1:Nat):Int)=(min n 1:Nat);rw [List.length_replicate,Nat.sub_zero,bP]
 ·show vS (dJ (α:=Int) (n:Int).toNat 0) 0 (dJ (α:=Int) (n:Int).toNat 0).length [-1]=_;rw [List.length_replicate,bP];exact Qj n
 rintro⟨(k:Int),_⟩ ⟨(t:Li 0),_⟩ ⟨k,hk1,hkn,hk0,hS⟩;replace hk1:_=(k:Int):=hk1;subst hk1;replace hS:t=nK k n:=hS;subst hS;have hl:@ln (ah 0) (nK k n)=n:=Gb hkn;refine gK fun K hK=>?_
 by_cases hkl:k<n
 ·have hd2:decide ((k:Int)<(@ln (ah 0) (nK k n):Nat))=true:=decide_eq_true au
  have hT:List.take ((k:Int)-0).toNat (List.drop (Int.toNat 0) (nK k n))=(nK k n).take k:=by
    rw [show((k:Int)-0).toNat=k by omega]
    rfl
  have hL:((List.length (nK k n):Nat):Int).toNat=n:=by rw [Gb hkn];rfl
  have hE:(k:Int)+((min (((List.length (nK k n):Nat):Int).toNat-(k:Int).toNat) (List.length (List.take ((k:Int)-0).toNat (List.drop (Int.toNat 0) (nK k n)))):Nat):Int)=((k+min (n-k) k:Nat):Int):=by
    rw [hT,hL,List.length_take,Gb hkn,bP,Nat.min_eq_left hkn];omega
  have hC:vS (nK k n) (k:Int).toNat ((List.length (nK k n):Nat):Int).toNat (List.take ((k:Int)-0).toNat (List.drop (Int.toNat 0) (nK k n)))=nK (k+min (n-k) k) n:=by
    rw [hT,hL];exact Va hkn
  have hM:((n:Int)-((k:Int)+((min (((List.length (nK k n):Nat):Int).toNat-(k:Int).toNat) (List.length (List.take ((k:Int)-0).toNat (List.drop (Int.toNat 0) (nK k n)))):Nat):Int))).toNat<((n:Int)-(k:Int)).toNat:=by
    rw [hE];omega
  repeat' first|refine iF ?_|apply B_<;>intro h hc|apply I_;intro h
  all_goals refine iw ?_
  exact KF.mk ⟨k+min (n-k) k,hE,au,au,hC⟩ hM bA
 have hd2:decide ((k:Int)<(@ln (ah 0) (nK k n):Nat))=false:=decide_eq_false au
 repeat' first|refine iF ?_|apply B_<;>intro h hc|apply I_;intro h
 all_goals refine iw ?_
 have ek:k=n:=by omega
 subst ek;refine⟨[],[],_,_,[1],⟨rfl,rfl,rfl⟩,?_⟩
 conv=>whnf
 refine w_ ?_;repeat' (first|((with_reducible apply And.intro)<;>(first|(with_reducible refine iK ?_;apply rfl)|(with_reducible refine eY ?_;apply rfl)|(refine w_ ?_)))|(with_reducible apply trivial)|apply rfl|apply(Or.inl rfl)|apply(Or.inr rfl)|apply(Or.inr (Or.inl rfl))|apply trivial|(apply And.intro<;>(refine w_ ?_)))
 (first|exact pO (ND k)|exact(ND k))
theorem isr_one (r:Int):DX ([r]:List Int)=([r]:List Int):=List.mergeSort_singleton r
theorem Z4 {z:Option Bool} {r:Int}:HC E0 71 1 [.bT 0] [(0,.arr 3 z 0 ([r]:List Int))] (fun s H n=>s=.jm []/\H=[(0,.arr 3 none 0 ([r]:List Int))]/\n=1):=by
 have h:=Bb z ([r]:List Int);rw [isr_one]at h;exact h
theorem hc_cmp1 {z:Option Bool} {r:Int}:HC E0 361 1 [.bT 0] [(0,.arr 3 z 0 ([r]:List Int))] (fun s H n=>s=.bT 1/\H=[(1,.arr 3 none 0 ([r]:List Int))]/\n=2):=Hu z ([r]:List Int)
def rOK (r n:Int):Prop:=0<=r/\r<n
def Qf (n:Int) (aA:List kX) (r:Int):List Int×List Int:=((dJ n.toNat (-1:Int)).set r.toNat r,[r])
def ou (n:Int) (aA:List kX) (r:Int):List Int:=(Pq (iP n aA) (Qf n aA r) (n.toNat+1)).1
@[reducible] def a_GL:List SV->PR
 |[.i n,.aW z 78 aA,.aW (some false) 0 [r]]=>.ob (gOk n aA/\rOK r n) (.aW none 0 (ou n aA r))
 |_=>.no
theorem o_GX:xU 264 a_GL:=by
 intro args m ids vs hG hm hv;unfold a_GL;split
 ·rename_i n z aA r;intro hb;refine aZ (DB:=[F_AZ]) (IL:=[I_Fc]) (WL:=[]) (fn:=Proofs.Tryz.f264) rfl rfl rfl rfl rfl rfl (fun hk=>?_) m ids vs hG hm hv
  clear hG hm hv;simp only [know]at hk;obtain⟨hgo,hr0,hr1⟩:=hb;have hn0:0<=n:=hgo.1;have hn1:n<=262144:=hgo.2.1;obtain⟨r',hr'⟩:∃ r':Int,r'=r:=⟨r,rfl⟩;subst hr';obtain⟨n,rfl⟩:=Int.eq_ofNat_of_zero_le hn0
  repeat' first|(refine w_ ?_;first|refine bO bK trivial ?_|(refine Or.inl ⟨_,_,_,_,[0],hc_rep (show n<=262144 by omega),rfl,rfl,rfl,rfl,rfl,(aK trivial),?_⟩;(rintro _ _ _ ⟨rfl,rfl,rfl⟩;refine aK (aK ?_)))|(refine Or.inl ⟨_,_,_,_,[3],Z4,rfl,rfl,rfl,rfl,rfl,(aK trivial),?_⟩;(rintro _ _ _ ⟨rfl,rfl,rfl⟩;refine aK (aK ?_)))|(refine Or.inl ⟨_,_,_,_,[3],hc_cmp1,rfl,rfl,rfl,rfl,rfl,(aK trivial),?_⟩;(rintro _ _ _ ⟨rfl,rfl,rfl⟩;refine aK (aK ?_))))|apply B_<;>intro h hc|apply I_;intro h
  all_goals conv=>whnf
  have hr2:0<=r'/\r'<((List.length (dJ (α:=ah 0) n (-1:Int)):Nat):Int):=by rw [@List.length_replicate (ah 0) n (-1:Int)];exact⟨hr0,hr1⟩
  have hd0:(decide ((0:Int)<=r')&&decide (r'<(n:Int)))=true:=by rw [decide_eq_true hr0,decide_eq_true hr1];rfl
  refine Or.inr (Or.inl ⟨2,?_⟩)
  repeat' first|(refine w_ ?_;first|(apply aP;focus (exact hr2))|refine bO bK trivial ?_)|apply B_<;>intro h hc|apply I_;intro h
  all_goals conv=>whnf
  have hxo:qp (iP n aA) n:=by
    have h:=Eu hgo;rw [bP]at h;exact h
  have hS1:ou n aA r'=(Pq (iP n aA) (Qf n aA r') (n+1)).1:=by unfold ou;rw [bP]
  have hSB:Qf n aA r'=((dJ n (-1:Int)).set r'.toNat r',[r']):=by unfold Qf;rw [bP]
  rw [hS1];generalize hnx:iP n aA=nx at hxo;obtain⟨hB1,hB2⟩:=s0_ok (n:=n) (r:=r') ⟨hr0,hr1⟩;have hB1':Jm n (Qf n aA r').1 (Qf n aA r').2:=by rw [hSB];exact hB1
  have hB2':neg (Qf n aA r').1+(Qf n aA r').2.length<=n:=by rw [hSB];exact hB2
  generalize Qf n aA r'=S0 at hSB hB1' hB2';refine Or.inr (Or.inr ⟨[(9,3,0)],[9,13],[],[1],[7,12],[6],?_⟩);conv=>whnf
  refine⟨fun(s:Unit×Int×Unit) (t:Li 0×(Li 0×Unit))=>∃ i:Nat,s.2.1=i/\i<=@ln (ah 0) t.1/\(t.2.1,t.1)=Pq nx S0 i,fun(s:Unit×Int×Unit) _=>(n+1-s.2.1).toNat,?_⟩
  conv=>whnf
  refine eZ.mk ⟨0,rfl,Nat.zero_le _,hSB.symm⟩ bA ?_;rintro⟨_,(i:Int),_⟩ ⟨(w:Li 0),(b:Li 0),_⟩ ⟨i,hi1,hi2,hS⟩;replace hi1:_=(i:Int):=hi1;subst hi1;replace hS:(b,w)=Pq nx S0 i:=hS;replace hi2:i<=@ln (ah 0) w:=hi2;refine gK fun K hK=>?_
  obtain⟨o1,o2⟩:=Qd hxo hB1' hB2' i;rw [<- hS]at o1 o2;replace o1:Jm n ((b,w):List Int×List Int).1 ((b,w):List Int×List Int).2:=o1;replace o2:neg ((b,w):List Int×List Int).1+((b,w):List Int×List Int).2.length<=n:=o2;have hbl:@ln (ah 0) b=n:=o1.lb;have hwl:@ln (ah 0) w<=n:=Nat.le_trans (Nat.le_add_left _ _) o2;have hnl:@ln (ah 34) nx=n:=hxo.len
  by_cases hil:i<@ln (ah 0) w
  ·have hd1:decide ((i:Int)<(@ln (ah 0) w:Nat))=true:=decide_eq_true au
   have hwi:0<=gi w i/\gi w i<n:=o1.wr _ (ny (l:=w) (k:=(i:Int)) (by exact hil))
   have p1:0<=gi w i/\gi w i<(@ln (ah 34) nx:Nat):=by omega
   repeat' first|(refine jU ?_;first|(apply aP;focus (exact p1))|refine bO bK trivial ?_)|apply B_<;>intro h hc|apply I_;intro h
   all_goals refine iw ?_
   refine Or.inr (Or.inr ⟨[(9,3,0)],[9,63],[],[1],[7,12,13,61,62],[7],?_⟩);conv=>whnf
   refine⟨fun(s:Unit×Int×Unit) (t:Li 0×(Li 0×Unit))=>∃ j:Nat,s.2.1=j/\j<=@ln (ah 0) (aQ nx (gi w i).toNat)/\(t.2.1,t.1)=Pt i (aQ nx (gi w i).toNat) (b,w) j,fun(s:Unit×Int×Unit) _=>((@ln (ah 0) (aQ nx (gi w i).toNat):Nat)-s.2.1).toNat,?_⟩
   conv=>whnf
   refine eZ.mk ⟨0,rfl,Nat.zero_le _,rfl⟩ bA ?_;rintro⟨_,(j:Int),_⟩ ⟨(w2:Li 0),(b2:Li 0),_⟩ ⟨j,hj1,hj2,hS2⟩;replace hj1:_=(j:Int):=hj1;subst hj1;replace hS2:((b2,w2):List Int×List Int)=Pt i (aQ nx (gi w i).toNat) ((b,w):List Int×List Int) j:=hS2;replace hj2:j<=@ln (ah 0) (aQ nx (gi w i).toNat):=hj2;refine gK fun K2 hK2=>?_
   obtain⟨e1,e2,e3,e4⟩:=Qe o1 o2 (by exact hil) (hxo.row (gi w i).toNat) j (by exact hj2)
   rw [<- hS2]at e1 e2 e3;have hb2:@ln (ah 0) b2=n:=e1.lb;have hw2:@ln (ah 0) w2<=n:=Nat.le_trans (Nat.le_add_left _ _) e2;have hi2:i<@ln (ah 0) w2:=e3
   by_cases hjl:j<@ln (ah 0) (aQ nx (gi w i).toNat)
   ·have hd2:decide ((j:Int)<(@ln (ah 0) (aQ nx (gi w i).toNat):Nat))=true:=decide_eq_true au
    have hrj:0<=gi (aQ nx (gi w i).toNat) j/\gi (aQ nx (gi w i).toNat) j<n:=hxo.row _ _ (ny (l:=aQ nx (gi w i).toNat) (k:=(j:Int)) (by exact hjl))
    have p2:0<=gi (aQ nx (gi w i).toNat) j/\gi (aQ nx (gi w i).toNat) j<(@ln (ah 0) b2:Nat):=by omega
    have p3:(@ln (ah 0) w2+1)*8<=140737488355328:=by omega
    have pm:((@ln (ah 0) (aQ nx (gi w i).toNat):Nat)-((j:Int)+1)).toNat<((@ln (ah 0) (aQ nx (gi w i).toNat):Nat)-(j:Int)).toNat:=by omega
    repeat' first|(refine jU ?_;refine KF.mk ?_ (pm) bA)|(refine jU ?_;first|(apply aP;focus (first|exact p2|exact p3))|refine bO bK trivial ?_)|apply B_<;>intro h hc|apply I_;intro h
    all_goals refine iw ?_
    ·refine⟨j+1,rfl,hjl,?_⟩;show _=XW i (aQ nx (gi w i).toNat) (Pt i (aQ nx (gi w i).toNat) ((b,w):List Int×List Int) j) j;rw [<- hS2];exact(if_pos (by assumption)).symm
    ·refine⟨j+1,rfl,hjl,?_⟩;show _=XW i (aQ nx (gi w i).toNat) (Pt i (aQ nx (gi w i).toNat) ((b,w):List Int×List Int) j) j;rw [<- hS2];exact(if_neg (by assumption)).symm
   ·have hd2:decide ((j:Int)<(@ln (ah 0) (aQ nx (gi w i).toNat):Nat))=false:=decide_eq_false au
    have ej:j=(aQ nx (gi w i).toNat).length:=Nat.le_antisymm hj2 (Nat.le_of_not_lt hjl);rw [ej]at hS2
    have t1:(b2,w2)=Pq nx S0 (i+1):=by
      show _=seO nx (Pq nx S0 i) i;rw [<- hS];exact hS2.trans (if_pos (by exact hil)).symm
    have pm:((n:Int)+1-((i:Int)+1)).toNat<((n:Int)+1-(i:Int)).toNat:=by omega
    repeat' first|(refine jU ?_;refine KF.mk ?_ (pm) bA)|refine iF ?_|apply B_<;>intro h hc|apply I_;intro h
    all_goals refine iw ?_
    exact⟨i+1,rfl,hi2,t1⟩
  have hd1:decide ((i:Int)<(@ln (ah 0) w:Nat))=false:=decide_eq_false au
  repeat' first|refine iF ?_|apply B_<;>intro h hc|apply I_;intro h
  all_goals refine iw ?_
  have t2:b=(Pq nx S0 (n+1)).1:=by
    have hi3:i<=n:=Nat.le_trans hi2 hwl;have h:=NC (out:=nx) (s:=S0) (i:=i) (by rw [<- hS];exact hil) (n+1-i)
    rw [show i+(n+1-i)=n+1 by omega]at h
    rw [h,<- hS]
  exact⟨Or.inl rfl,pO t2⟩
 ·trivial
noncomputable def F_Aa:Fact E0:=⟨264,a_GL,by unfold dA;kernel_rfl,o_GX⟩
end Go.SX
