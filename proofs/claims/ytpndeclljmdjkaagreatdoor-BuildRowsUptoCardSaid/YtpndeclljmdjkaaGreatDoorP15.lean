/- A part of the proof (texts B46, B47, B48). -/
import Derived.Test.YtpndeclljmdjkaaGreatDoorP10
import Derived.Test.YtpndeclljmdjkaaGreatDoorP12
import Derived.Test.YtpndeclljmdjkaaGreatDoorP14
set_option linter.all false
set_option maxRecDepth 100000
namespace Go.SX
open List renaming length_append -> dL
open Int renaming eq_ofNat_of_zero_le -> cO,toNat_natCast -> bP
open List renaming length -> ln
open Go.XK Go.RowKit
set_option maxHeartbeats 40000000
noncomputable section
def CG:Nat->UInt64->List UInt8
 |0,n=>[n.toUInt8]
 |k+1,n=>if UInt64.ofNat 128<=n then((n % UInt64.ofNat 128).toUInt8 ||| UInt8.ofNat 128)::CG k (n / UInt64.ofNat 128)else [n.toUInt8]
theorem sW:∀ (k:Nat) (n:UInt64),(CG k n).length<=k+1/\0<(CG k n).length
 |0,_=>⟨Nat.le_refl _,Nat.one_pos⟩
 |k+1,n=>by
   rw [CG];split
   ·have:=(sW k (n / UInt64.ofNat 128)).1;rw [List.length_cons];omega
   ·exact⟨by show 1<=_;omega,Nat.one_pos⟩
theorem putF_z {n:UInt64} (h:¬ UInt64.ofNat 128<=n) (k:Nat):CG k n=[n.toUInt8]:=by
 cases k with
 |zero=>rfl
 |succ k=>rw [CG,if_neg h]
def NN (L l:List UInt8) (n:UInt64):Prop:=∃ j:Nat,l.length+j=10/\n.toNat<128 ^ j/\L=l++CG j n
theorem putI_0 (n:UInt64):NN (CG 10 n) [] n:=⟨10,rfl,Nat.lt_of_lt_of_le n.toNat_lt (by decide),rfl⟩
theorem putI_s {L l:List UInt8} {n:UInt64} (h:NN L l n) (hc:UInt64.ofNat 128<=n):NN L (l++[(n % UInt64.ofNat 128).toUInt8 ||| UInt8.ofNat 128]) (n / UInt64.ofNat 128)/\(n / UInt64.ofNat 128).toNat<n.toNat:=by
 obtain⟨j,h1,h2,h3⟩:=h;have hn:128<=n.toNat:=by simpa [UInt64.le_iff_toNat_le] using hc
 have ed:(n / UInt64.ofNat 128).toNat=n.toNat / 128:=by rw [UInt64.toNat_div];rfl
 cases j with
 |zero=>simp at h2;omega
 |succ j =>
   refine⟨⟨j,by rw [dL];show l.length+1+j=10;omega,?_,?_⟩,?_⟩
   ·rw [ed,Nat.div_lt_iff_lt_mul (by decide)]
    rw [Nat.pow_succ]at h2;exact h2
   ·rw [h3,CG,if_pos hc,List.append_assoc];rfl
   ·rw [ed];omega
theorem putI_e {L l:List UInt8} {n:UInt64} (h:NN L l n) (hc:¬ UInt64.ofNat 128<=n):L=l++[n.toUInt8]:=by
 obtain⟨j,h1,h2,h3⟩:=h;rw [h3,putF_z hc]
theorem putI_l {L l:List UInt8} {n:UInt64} (h:NN L l n):l.length<=10:=by
 obtain⟨j,h1,_⟩:=h;omega
def F_El:Fact E0:=bM 239 Proofs.Tryz.f239 rfl rfl rfl [.n,.jg] (fun n=>.ok (.aW none 3 (CG 10 n))) [] [] (by
   intro n;refine dP rfl rfl fun hk=>?_
   simp only [know]at hk;generalize hL:CG 10 n=L;have h0:NN L [] n:=by rw [<- hL];exact putI_0 n
   repeat' first|refine dM ?_|apply B_<;>intro h hc|apply I_;intro h
   all_goals conv=>whnf
   refine Or.inr (Or.inr ⟨[(0,5,3)],[0,1],[],[],[],[],?_⟩);conv=>whnf
   refine⟨fun(s:Unit×UInt64×Unit) (t:Li 3×Unit)=>NN L t.1 s.2.1,fun(s:Unit×UInt64×Unit) _=>s.2.1.toNat,?_⟩
   conv=>whnf
   refine eZ.mk h0 bA ?_;rintro⟨_,(n:UInt64),_⟩ ⟨(l:Li 3),_⟩ hI;replace hI:NN L l n:=hI;have hl:@ln (ah 3) l<=10:=putI_l hI;have hl2:(@ln (ah 3) l+1)*1<=140737488355328:=by omega
   repeat' first|(refine w_ ?_;first|(apply aP;focus (first|(decide)|exact hl2))|refine bO bK trivial ?_)|apply B_<;>intro h hc|apply I_;intro h
   all_goals conv=>whnf
   ·obtain⟨g1,g2⟩:=putI_s hI (by assumption)
    exact KF.mk g1 g2 bA
   ·have e:=putI_e hI (by assumption)
    refine w_ ?_;repeat' (first|((with_reducible apply And.intro)<;>(first|(with_reducible refine iK ?_;apply rfl)|(with_reducible refine eY ?_;apply rfl)|(refine w_ ?_)))|(with_reducible apply trivial)|apply rfl|apply(Or.inl rfl)|apply(Or.inr rfl)|apply(Or.inr (Or.inl rfl))|apply trivial|(apply And.intro<;>(refine w_ ?_)))
    all_goals (first|exact pO e.symm|exact e.symm))
def cZ (n:Int):Li 3:=CG 10 (Fy (UInt64.ofInt n) ((UInt64.ofNat 1).toNat:Int) ^^^ UInt64.ofInt (n.fdiv (2 ^ min (((UInt64.ofNat 63).toNat:Int)).toNat 64)))
def wNumL (n:Int):Li 3:=CG 10 (UInt64.ofInt n)
def iE (n:Int):ByteArray:=ofBytes (cZ n)
def jf (n:Int):ByteArray:=bif decide (n<0)then⟨#[]⟩else ofBytes (wNumL n)
theorem tq (l:List UInt8):(ofBytes l).size=l.length:=by unfold ofBytes;exact List.size_toArray ..
theorem eB (n:Int):@ln (ah 3) (cZ n)<=11/\0<@ln (ah 3) (cZ n):=sW 10 _
theorem sO (n:Int):(jf n).size<=11:=by
 unfold jf
 cases decide (n<0)with
 |true=>exact Nat.zero_le _
 |false =>
   show(ofBytes (wNumL n)).size<=11;exact Nat.le_trans (Nat.le_of_eq (tq _)) (sW 10 _).1
def pR (s:ByteArray):ByteArray:=jf s.size++s
theorem bY (s:ByteArray):(pR s).size<=s.size+11:=by
 unfold pR;rw [ByteArray.size_append];have:=sO s.size;omega
def o9 (a:Int):ByteArray:=ofBytes (cZ a)
def BH (a b:Int):ByteArray:=ofBytes (@HAppend.hAppend (Li 3) (Li 3) (Li 3) _ (cZ a) (cZ b))
def Fb (a b c:Int):ByteArray:=ofBytes (@HAppend.hAppend (Li 3) (Li 3) (Li 3) _ (@HAppend.hAppend (Li 3) (Li 3) (Li 3) _ (cZ a) (cZ b)) (cZ c))
def PE (a b c d:Int):ByteArray:=ofBytes (@HAppend.hAppend (Li 3) (Li 3) (Li 3) _ (@HAppend.hAppend (Li 3) (Li 3) (Li 3) _ (@HAppend.hAppend (Li 3) (Li 3) (Li 3) _ (cZ a) (cZ b)) (cZ c)) (cZ d))
def F_Ei:Fact E0:=bM 223 Proofs.Tryz.f223 rfl rfl rfl [.i] (fun n=>.ok (.str (iE n))) [F_El] [] (by
   repeat intro _
   refine dP rfl rfl fun hk=>?_
   repeat' first|(refine w_ ?_;first|(apply aP;focus (exact Nat.le_trans (sW 10 _).1 (by decide)))|refine bO bK trivial ?_)|apply B_<;>intro h hc|apply I_;intro h
   all_goals conv=>whnf
   all_goals rfl)
def Pg:Fact E0:=bM 154 Proofs.Tryz.f154 rfl rfl rfl [.i] (fun n=>.ok (.str (jf n))) [F_El] [] (by
   repeat intro _
   refine dP rfl rfl fun hk=>?_
   repeat' first|(refine w_ ?_;first|(apply aP;focus (exact Nat.le_trans (sW 10 _).1 (by decide)))|refine bO bK trivial ?_)|apply B_<;>intro h hc|apply I_;intro h
   all_goals conv=>whnf
   all_goals (unfold jf;(repeat (first|exact rfl|refine gW (by assumption) ?_|refine gB (by assumption) ?_|refine jY (by first|assumption|omega) ?_|refine jZ (by first|assumption|omega) ?_))))
def RD:Fact E0:=bM 151 Proofs.Tryz.f151 rfl rfl rfl [.s] (fun s=>.ob ((s.size:Int)<=1099511627776) (.str (pR s))) [Pg] [] (by
   intro s;refine fD rfl rfl fun hb hk=>?_
   have hq:=sO s.size
   repeat' first|(refine w_ ?_;first|(apply aP;focus (rw [ByteArray.size_append]<;>omega))|refine bO bK trivial ?_)|apply B_<;>intro h hc|apply I_;intro h
   all_goals conv=>whnf
   all_goals rfl)
@[reducible] def a_GS:List SV->PR
 |[.aW z 0 [a]]=>.ok (.str (o9 a))
 |_=>.no
theorem o_Gd:xU 150 a_GS:=by
 intro args m ids vs hG hm hv;unfold a_GS;split
 ·rename_i z a;have qa:@ln (ah 3) (cZ a)<=11/\0<@ln (ah 3) (cZ a):=eB a;have h1:@ln (ah 3) (iE a).data.toList<=70368744177664:=by show @ln (ah 3) (cZ a)<=_;omega
  have e1:@ln (ah 3) (iE a).data.toList=@ln (ah 3) (cZ a):=by repeat (first|rfl|refine(dL (α:=ah 3)).trans (congrArg (fun n=>n+_) ?_))
  have h0:0<@ln (ah 3) (iE a).data.toList:=by rw [e1];omega
  refine aZ (DB:=[F_Ei]) (IL:=[]) (WL:=[]) (fn:=Proofs.Tryz.f150) rfl rfl rfl rfl rfl rfl (fun hk=>?_) m ids vs hG hm hv
  clear hG hm hv
  repeat' first|(refine w_ ?_;first|refine bO bK trivial ?_|(refine Or.inl ⟨_,_,_,_,[0],nk h1,rfl,rfl,rfl,rfl,rfl,(aK trivial),?_⟩;(rintro _ _ _ ⟨rfl,rfl,rfl⟩;refine aK (aK ?_)))|(refine Or.inl ⟨_,_,_,_,[0,1],lG h0,rfl,rfl,rfl,rfl,rfl,(aK (aK trivial)),?_⟩;(rintro _ _ _ ⟨rfl,rfl,rfl⟩;refine aK (aK ?_))))|apply B_<;>intro h hc|apply I_;intro h
  all_goals conv=>whnf
  refine Or.inr (Or.inl ⟨2,?_⟩);conv=>whnf
  repeat' first|(refine w_ ?_;first|refine bO bK trivial ?_|(refine Or.inl ⟨_,_,_,_,[0],nk h1,rfl,rfl,rfl,rfl,rfl,(aK trivial),?_⟩;(rintro _ _ _ ⟨rfl,rfl,rfl⟩;refine aK (aK ?_)))|(refine Or.inl ⟨_,_,_,_,[0,1],lG h0,rfl,rfl,rfl,rfl,rfl,(aK (aK trivial)),?_⟩;(rintro _ _ _ ⟨rfl,rfl,rfl⟩;refine aK (aK ?_))))|apply B_<;>intro h hc|apply I_;intro h
  all_goals conv=>whnf
  all_goals rfl
 ·trivial
def Pm:Fact E0:=⟨150,a_GS,by unfold dA;kernel_rfl,o_Gd⟩
@[reducible] def a_GT:List SV->PR
 |[.aW z 0 [a,b]]=>.ok (.str (BH a b))
 |_=>.no
theorem o_Ge:xU 150 a_GT:=by
 intro args m ids vs hG hm hv;unfold a_GT;split
 ·rename_i z a b;have qa:@ln (ah 3) (cZ a)<=11/\0<@ln (ah 3) (cZ a):=eB a;have qb:@ln (ah 3) (cZ b)<=11/\0<@ln (ah 3) (cZ b):=eB b;have h1:@ln (ah 3) (iE a).data.toList<=70368744177664:=by show @ln (ah 3) (cZ a)<=_;omega
  have e1:@ln (ah 3) (iE a).data.toList=@ln (ah 3) (cZ a):=by repeat (first|rfl|refine(dL (α:=ah 3)).trans (congrArg (fun n=>n+_) ?_))
  have h2:@ln (ah 3) (iE a).data.toList+@ln (ah 3) (iE b).data.toList<=70368744177664:=by rw [e1];show _+@ln (ah 3) (cZ b)<=_;omega
  have e2:@ln (ah 3) (@HAppend.hAppend (Li 3) (Li 3) (Li 3) _ (iE a).data.toList (iE b).data.toList)=@ln (ah 3) (cZ a)+@ln (ah 3) (cZ b):=by repeat (first|rfl|refine(dL (α:=ah 3)).trans (congrArg (fun n=>n+_) ?_))
  have h0:0<@ln (ah 3) (@HAppend.hAppend (Li 3) (Li 3) (Li 3) _ (iE a).data.toList (iE b).data.toList):=by rw [e2];omega
  refine aZ (DB:=[F_Ei]) (IL:=[]) (WL:=[]) (fn:=Proofs.Tryz.f150) rfl rfl rfl rfl rfl rfl (fun hk=>?_) m ids vs hG hm hv
  clear hG hm hv
  repeat' first|(refine w_ ?_;first|refine bO bK trivial ?_|(refine Or.inl ⟨_,_,_,_,[0],nk h1,rfl,rfl,rfl,rfl,rfl,(aK trivial),?_⟩;(rintro _ _ _ ⟨rfl,rfl,rfl⟩;refine aK (aK ?_)))|(refine Or.inl ⟨_,_,_,_,[0,1],jS h2,rfl,rfl,rfl,rfl,rfl,(aK (aK trivial)),?_⟩;(rintro _ _ _ ⟨rfl,rfl,rfl⟩;refine aK (aK ?_)))|(refine Or.inl ⟨_,_,_,_,[0,2],lG h0,rfl,rfl,rfl,rfl,rfl,(aK (aK trivial)),?_⟩;(rintro _ _ _ ⟨rfl,rfl,rfl⟩;refine aK (aK ?_))))|apply B_<;>intro h hc|apply I_;intro h
  all_goals conv=>whnf
  refine Or.inr (Or.inl ⟨3,?_⟩);conv=>whnf
  repeat' first|(refine w_ ?_;first|refine bO bK trivial ?_|(refine Or.inl ⟨_,_,_,_,[0],nk h1,rfl,rfl,rfl,rfl,rfl,(aK trivial),?_⟩;(rintro _ _ _ ⟨rfl,rfl,rfl⟩;refine aK (aK ?_)))|(refine Or.inl ⟨_,_,_,_,[0,1],jS h2,rfl,rfl,rfl,rfl,rfl,(aK (aK trivial)),?_⟩;(rintro _ _ _ ⟨rfl,rfl,rfl⟩;refine aK (aK ?_)))|(refine Or.inl ⟨_,_,_,_,[0,2],lG h0,rfl,rfl,rfl,rfl,rfl,(aK (aK trivial)),?_⟩;(rintro _ _ _ ⟨rfl,rfl,rfl⟩;refine aK (aK ?_))))|apply B_<;>intro h hc|apply I_;intro h
  all_goals conv=>whnf
  all_goals rfl
 ·trivial
def Pk:Fact E0:=⟨150,a_GT,by unfold dA;kernel_rfl,o_Ge⟩
@[reducible] def a_GU:List SV->PR
 |[.aW z 0 [a,b,c]]=>.ok (.str (Fb a b c))
 |_=>.no
theorem o_Gf:xU 150 a_GU:=by
 intro args m ids vs hG hm hv;unfold a_GU;split
 ·rename_i z a b c;have qa:@ln (ah 3) (cZ a)<=11/\0<@ln (ah 3) (cZ a):=eB a;have qb:@ln (ah 3) (cZ b)<=11/\0<@ln (ah 3) (cZ b):=eB b;have qc:@ln (ah 3) (cZ c)<=11/\0<@ln (ah 3) (cZ c):=eB c;have h1:@ln (ah 3) (iE a).data.toList<=70368744177664:=by show @ln (ah 3) (cZ a)<=_;omega
  have e1:@ln (ah 3) (iE a).data.toList=@ln (ah 3) (cZ a):=by repeat (first|rfl|refine(dL (α:=ah 3)).trans (congrArg (fun n=>n+_) ?_))
  have h2:@ln (ah 3) (iE a).data.toList+@ln (ah 3) (iE b).data.toList<=70368744177664:=by rw [e1];show _+@ln (ah 3) (cZ b)<=_;omega
  have e2:@ln (ah 3) (@HAppend.hAppend (Li 3) (Li 3) (Li 3) _ (iE a).data.toList (iE b).data.toList)=@ln (ah 3) (cZ a)+@ln (ah 3) (cZ b):=by repeat (first|rfl|refine(dL (α:=ah 3)).trans (congrArg (fun n=>n+_) ?_))
  have h3:@ln (ah 3) (@HAppend.hAppend (Li 3) (Li 3) (Li 3) _ (iE a).data.toList (iE b).data.toList)+@ln (ah 3) (iE c).data.toList<=70368744177664:=by rw [e2];show _+@ln (ah 3) (cZ c)<=_;omega
  have e3:@ln (ah 3) (@HAppend.hAppend (Li 3) (Li 3) (Li 3) _ (@HAppend.hAppend (Li 3) (Li 3) (Li 3) _ (iE a).data.toList (iE b).data.toList) (iE c).data.toList)=@ln (ah 3) (cZ a)+@ln (ah 3) (cZ b)+@ln (ah 3) (cZ c):=by repeat (first|rfl|refine(dL (α:=ah 3)).trans (congrArg (fun n=>n+_) ?_))
  have h0:0<@ln (ah 3) (@HAppend.hAppend (Li 3) (Li 3) (Li 3) _ (@HAppend.hAppend (Li 3) (Li 3) (Li 3) _ (iE a).data.toList (iE b).data.toList) (iE c).data.toList):=by rw [e3];omega
  refine aZ (DB:=[F_Ei]) (IL:=[]) (WL:=[]) (fn:=Proofs.Tryz.f150) rfl rfl rfl rfl rfl rfl (fun hk=>?_) m ids vs hG hm hv
  clear hG hm hv
  repeat' first|(refine w_ ?_;first|refine bO bK trivial ?_|(refine Or.inl ⟨_,_,_,_,[0],nk h1,rfl,rfl,rfl,rfl,rfl,(aK trivial),?_⟩;(rintro _ _ _ ⟨rfl,rfl,rfl⟩;refine aK (aK ?_)))|(refine Or.inl ⟨_,_,_,_,[0,1],jS h2,rfl,rfl,rfl,rfl,rfl,(aK (aK trivial)),?_⟩;(rintro _ _ _ ⟨rfl,rfl,rfl⟩;refine aK (aK ?_)))|(refine Or.inl ⟨_,_,_,_,[0,2],jS h3,rfl,rfl,rfl,rfl,rfl,(aK (aK trivial)),?_⟩;(rintro _ _ _ ⟨rfl,rfl,rfl⟩;refine aK (aK ?_)))|(refine Or.inl ⟨_,_,_,_,[0,3],lG h0,rfl,rfl,rfl,rfl,rfl,(aK (aK trivial)),?_⟩;(rintro _ _ _ ⟨rfl,rfl,rfl⟩;refine aK (aK ?_))))|apply B_<;>intro h hc|apply I_;intro h
  all_goals conv=>whnf
  refine Or.inr (Or.inl ⟨4,?_⟩);conv=>whnf
  repeat' first|(refine w_ ?_;first|refine bO bK trivial ?_|(refine Or.inl ⟨_,_,_,_,[0],nk h1,rfl,rfl,rfl,rfl,rfl,(aK trivial),?_⟩;(rintro _ _ _ ⟨rfl,rfl,rfl⟩;refine aK (aK ?_)))|(refine Or.inl ⟨_,_,_,_,[0,1],jS h2,rfl,rfl,rfl,rfl,rfl,(aK (aK trivial)),?_⟩;(rintro _ _ _ ⟨rfl,rfl,rfl⟩;refine aK (aK ?_)))|(refine Or.inl ⟨_,_,_,_,[0,2],jS h3,rfl,rfl,rfl,rfl,rfl,(aK (aK trivial)),?_⟩;(rintro _ _ _ ⟨rfl,rfl,rfl⟩;refine aK (aK ?_)))|(refine Or.inl ⟨_,_,_,_,[0,3],lG h0,rfl,rfl,rfl,rfl,rfl,(aK (aK trivial)),?_⟩;(rintro _ _ _ ⟨rfl,rfl,rfl⟩;refine aK (aK ?_))))|apply B_<;>intro h hc|apply I_;intro h
  all_goals conv=>whnf
  all_goals rfl
 ·trivial
def Pj:Fact E0:=⟨150,a_GU,by unfold dA;kernel_rfl,o_Gf⟩
@[reducible] def a_GV:List SV->PR
 |[.aW z 0 [a,b,c,d]]=>.ok (.str (PE a b c d))
 |_=>.no
theorem o_Gg:xU 150 a_GV:=by
 intro args m ids vs hG hm hv;unfold a_GV;split
 ·rename_i z a b c d;have qa:@ln (ah 3) (cZ a)<=11/\0<@ln (ah 3) (cZ a):=eB a;have qb:@ln (ah 3) (cZ b)<=11/\0<@ln (ah 3) (cZ b):=eB b;have qc:@ln (ah 3) (cZ c)<=11/\0<@ln (ah 3) (cZ c):=eB c;have qd:@ln (ah 3) (cZ d)<=11/\0<@ln (ah 3) (cZ d):=eB d;have h1:@ln (ah 3) (iE a).data.toList<=70368744177664:=by show @ln (ah 3) (cZ a)<=_;omega
  have e1:@ln (ah 3) (iE a).data.toList=@ln (ah 3) (cZ a):=by repeat (first|rfl|refine(dL (α:=ah 3)).trans (congrArg (fun n=>n+_) ?_))
  have h2:@ln (ah 3) (iE a).data.toList+@ln (ah 3) (iE b).data.toList<=70368744177664:=by rw [e1];show _+@ln (ah 3) (cZ b)<=_;omega
  have e2:@ln (ah 3) (@HAppend.hAppend (Li 3) (Li 3) (Li 3) _ (iE a).data.toList (iE b).data.toList)=@ln (ah 3) (cZ a)+@ln (ah 3) (cZ b):=by repeat (first|rfl|refine(dL (α:=ah 3)).trans (congrArg (fun n=>n+_) ?_))
  have h3:@ln (ah 3) (@HAppend.hAppend (Li 3) (Li 3) (Li 3) _ (iE a).data.toList (iE b).data.toList)+@ln (ah 3) (iE c).data.toList<=70368744177664:=by rw [e2];show _+@ln (ah 3) (cZ c)<=_;omega
  have e3:@ln (ah 3) (@HAppend.hAppend (Li 3) (Li 3) (Li 3) _ (@HAppend.hAppend (Li 3) (Li 3) (Li 3) _ (iE a).data.toList (iE b).data.toList) (iE c).data.toList)=@ln (ah 3) (cZ a)+@ln (ah 3) (cZ b)+@ln (ah 3) (cZ c):=by repeat (first|rfl|refine(dL (α:=ah 3)).trans (congrArg (fun n=>n+_) ?_))
  have h4:@ln (ah 3) (@HAppend.hAppend (Li 3) (Li 3) (Li 3) _ (@HAppend.hAppend (Li 3) (Li 3) (Li 3) _ (iE a).data.toList (iE b).data.toList) (iE c).data.toList)+@ln (ah 3) (iE d).data.toList<=70368744177664:=by rw [e3];show _+@ln (ah 3) (cZ d)<=_;omega
  have e4:@ln (ah 3) (@HAppend.hAppend (Li 3) (Li 3) (Li 3) _ (@HAppend.hAppend (Li 3) (Li 3) (Li 3) _ (@HAppend.hAppend (Li 3) (Li 3) (Li 3) _ (iE a).data.toList (iE b).data.toList) (iE c).data.toList) (iE d).data.toList)=@ln (ah 3) (cZ a)+@ln (ah 3) (cZ b)+@ln (ah 3) (cZ c)+@ln (ah 3) (cZ d):=by repeat (first|rfl|refine(dL (α:=ah 3)).trans (congrArg (fun n=>n+_) ?_))
  have h0:0<@ln (ah 3) (@HAppend.hAppend (Li 3) (Li 3) (Li 3) _ (@HAppend.hAppend (Li 3) (Li 3) (Li 3) _ (@HAppend.hAppend (Li 3) (Li 3) (Li 3) _ (iE a).data.toList (iE b).data.toList) (iE c).data.toList) (iE d).data.toList):=by rw [e4];omega
  refine aZ (DB:=[F_Ei]) (IL:=[]) (WL:=[]) (fn:=Proofs.Tryz.f150) rfl rfl rfl rfl rfl rfl (fun hk=>?_) m ids vs hG hm hv
  clear hG hm hv
  repeat' first|(refine w_ ?_;first|refine bO bK trivial ?_|(refine Or.inl ⟨_,_,_,_,[0],nk h1,rfl,rfl,rfl,rfl,rfl,(aK trivial),?_⟩;(rintro _ _ _ ⟨rfl,rfl,rfl⟩;refine aK (aK ?_)))|(refine Or.inl ⟨_,_,_,_,[0,1],jS h2,rfl,rfl,rfl,rfl,rfl,(aK (aK trivial)),?_⟩;(rintro _ _ _ ⟨rfl,rfl,rfl⟩;refine aK (aK ?_)))|(refine Or.inl ⟨_,_,_,_,[0,2],jS h3,rfl,rfl,rfl,rfl,rfl,(aK (aK trivial)),?_⟩;(rintro _ _ _ ⟨rfl,rfl,rfl⟩;refine aK (aK ?_)))|(refine Or.inl ⟨_,_,_,_,[0,3],jS h4,rfl,rfl,rfl,rfl,rfl,(aK (aK trivial)),?_⟩;(rintro _ _ _ ⟨rfl,rfl,rfl⟩;refine aK (aK ?_)))|(refine Or.inl ⟨_,_,_,_,[0,4],lG h0,rfl,rfl,rfl,rfl,rfl,(aK (aK trivial)),?_⟩;(rintro _ _ _ ⟨rfl,rfl,rfl⟩;refine aK (aK ?_))))|apply B_<;>intro h hc|apply I_;intro h
  all_goals conv=>whnf
  refine Or.inr (Or.inl ⟨5,?_⟩);conv=>whnf
  repeat' first|(refine w_ ?_;first|refine bO bK trivial ?_|(refine Or.inl ⟨_,_,_,_,[0],nk h1,rfl,rfl,rfl,rfl,rfl,(aK trivial),?_⟩;(rintro _ _ _ ⟨rfl,rfl,rfl⟩;refine aK (aK ?_)))|(refine Or.inl ⟨_,_,_,_,[0,1],jS h2,rfl,rfl,rfl,rfl,rfl,(aK (aK trivial)),?_⟩;(rintro _ _ _ ⟨rfl,rfl,rfl⟩;refine aK (aK ?_)))|(refine Or.inl ⟨_,_,_,_,[0,2],jS h3,rfl,rfl,rfl,rfl,rfl,(aK (aK trivial)),?_⟩;(rintro _ _ _ ⟨rfl,rfl,rfl⟩;refine aK (aK ?_)))|(refine Or.inl ⟨_,_,_,_,[0,3],jS h4,rfl,rfl,rfl,rfl,rfl,(aK (aK trivial)),?_⟩;(rintro _ _ _ ⟨rfl,rfl,rfl⟩;refine aK (aK ?_)))|(refine Or.inl ⟨_,_,_,_,[0,4],lG h0,rfl,rfl,rfl,rfl,rfl,(aK (aK trivial)),?_⟩;(rintro _ _ _ ⟨rfl,rfl,rfl⟩;refine aK (aK ?_))))|apply B_<;>intro h hc|apply I_;intro h
  all_goals conv=>whnf
  all_goals rfl
 ·trivial
def Ph:Fact E0:=⟨150,a_GV,by unfold dA;kernel_rfl,o_Gg⟩
def jT (s:ByteArray):Prop:=(s.size:Int)<=1048576
abbrev app3 (a b:Li 3):Li 3:=@HAppend.hAppend (Li 3) (Li 3) (Li 3) _ a b
def Ea (N:Li 3) (f:Nat->ByteArray):Nat->Li 3
 |0=>N
 |k+1=>app3 (Ea N f k) (f k).data.toList
theorem rU {N:Li 3} {f:Nat->ByteArray} {B:Nat}:∀ (k:Nat),(∀ j,j<k->(f j).size<=B)->@ln (ah 3) (Ea N f k)<=@ln (ah 3) N+k*B/\@ln (ah 3) N<=@ln (ah 3) (Ea N f k)
 |0,_=>by rw [Nat.zero_mul];exact⟨Nat.le_refl _,Nat.le_refl _⟩
 |k+1,h=>by
   obtain⟨h1,h2⟩:=rU (N:=N) k fun j hj=>h j au
   have h3:=h k au
   have e:@ln (ah 3) (Ea N f (k+1))=@ln (ah 3) (Ea N f k)+(f k).size:=(dL (α:=ah 3)).trans (congrArg (fun n=>_+n) (Lib.size_eq (f k)).symm)
   rw [e,Nat.succ_mul];omega
theorem zk (n:Nat):@ln (ah 3) (jf n).data.toList<=11/\0<@ln (ah 3) (jf n).data.toList:=by
 unfold jf;rw [show decide ((n:Int)<0)=false from decide_eq_false au]
 exact sW 10 _
def rT (n:Nat) (f:Nat->ByteArray):ByteArray:=ofBytes (Ea (jf n).data.toList f n)
theorem iG {n:Nat} {f:Nat->ByteArray} (hn:n<=1048576) (h:∀ j,j<n->(f j).size<=4194304):(rT n f).size<=4398046511115:=by
 have h1:=(rU (N:=(jf n).data.toList) n h).1;have h2:=(zk n).1;have e:(rT n f).size=@ln (ah 3) (Ea (jf n).data.toList f n):=tq _;rw [e];have:n*4194304<=1048576*4194304:=Nat.mul_le_mul_right _ hn;omega
theorem WI (a:Int):(o9 a).size<=44:=by
 refine Nat.le_trans (Nat.le_of_eq (tq _)) ?_;have:=eB a;show @ln (ah 3) (cZ a)<=44;omega
theorem wi2 (a b:Int):(BH a b).size<=44:=by
 refine Nat.le_trans (Nat.le_of_eq ((tq _).trans (dL (α:=ah 3)))) ?_;have:=eB a;have:=eB b;omega
theorem wi3 (a b c:Int):(Fb a b c).size<=44:=by
 refine Nat.le_trans (Nat.le_of_eq ((tq _).trans ((dL (α:=ah 3)).trans (congrArg (fun n=>n+_) (dL (α:=ah 3)))))) ?_
 have:=eB a;have:=eB b;have:=eB c;omega
theorem wi4 (a b c d:Int):(PE a b c d).size<=44:=by
 refine Nat.le_trans (Nat.le_of_eq ((tq _).trans ((dL (α:=ah 3)).trans (congrArg (fun n=>n+_) ((dL (α:=ah 3)).trans (congrArg (fun n=>n+_) (dL (α:=ah 3)))))))) ?_
 have:=eB a;have:=eB b;have:=eB c;have:=eB d;omega
def tC (m:eU):ByteArray:=pR m.Name++Fb m.Kind m.At m.Size
def tJ (l:fQ):ByteArray:=BH l.gD l.At++pR l.File++o9 l.Line
def CX (x:dW):ByteArray:=Fb x.gD x.From x.To++pR x.Name++pR x.File++o9 x.Line
def Ed (d:iH):ByteArray:=PE d.gD d.From d.To d.Bytes
theorem zM {m:eU} (h:jT m.Name):(tC m).size<=4194304:=by
 unfold tC jT at *;rw [ByteArray.size_append];have:=bY m.Name;have:=wi3 m.Kind m.At m.Size;omega
theorem zO {l:fQ} (h:jT l.File):(tJ l).size<=4194304:=by
 unfold tJ jT at *;rw [ByteArray.size_append,ByteArray.size_append];have:=bY l.File;have:=wi2 l.gD l.At;have:=WI l.Line;omega
theorem CY {x:dW} (h:jT x.Name/\jT x.File):(CX x).size<=4194304:=by
 unfold CX jT at *;rw [ByteArray.size_append,ByteArray.size_append,ByteArray.size_append];have:=bY x.Name;have:=bY x.File;have:=wi3 x.gD x.From x.To;have:=WI x.Line;omega
theorem Dj {d:iH}:(Ed d).size<=4194304:=Nat.le_trans (wi4 ..) (by decide)
def F_EY:Fact E0:=bM 228 Proofs.Tryz.f228 rfl rfl rfl [.g uM] (fun mA Zb mAt Za=>.ob (jT mA) (.str (tC (⟨mA,Zb,mAt,Za⟩:eU)))) [RD,Pm,Pk,Pj,Ph] [] (by
   intro mA Zb mAt Za;refine fD rfl rfl fun hb hk=>?_
   unfold jT at hb;have:=bY mA;have:=wi3 Zb mAt Za
   repeat' first|(refine w_ ?_;first|(apply aP;focus ((repeat rw [ByteArray.size_append])<;>omega))|refine bO bK trivial ?_)|apply B_<;>intro h hc|apply I_;intro h
   all_goals conv=>whnf
   all_goals rfl)
def F_EZ:Fact E0:=bM 230 Proofs.Tryz.f230 rfl rfl rfl [.g pY] (fun Mj mAt mFile GZ=>.ob (jT mFile) (.str (tJ (⟨Mj,mAt,mFile,GZ⟩:fQ)))) [RD,Pm,Pk,Pj,Ph] [] (by
   intro Mj mAt mFile GZ;refine fD rfl rfl fun hb hk=>?_
   unfold jT at hb;have:=bY mFile;have:=wi2 Mj mAt;have:=WI GZ
   repeat' first|(refine w_ ?_;first|(apply aP;focus ((repeat rw [ByteArray.size_append])<;>omega))|refine bO bK trivial ?_|(refine Or.inr (Or.inl ⟨[1,0,1,0,2,0,1,0,0,1,1,0,2,0,1,1],(.take 0 (.take 2 (.take 6 (.take 10 (.take 1 (.take 3 (.take 7 (.take 11 (.two 4 (.take 5 (.take 8 (.take 9 (.one 12 (.take 13 (.take 14 (.take 15 .done))))))) 12 (.one 4 (.take 5 (.take 8 (.take 9 (.take 13 (.take 14 (.take 15 .done)))))))))))))))),by decide +kernel,?_⟩))|(refine And.intro ?_ ?_))|apply B_<;>intro h hc|apply I_;intro h
   all_goals conv=>whnf
   all_goals rfl)
def F_Ea:Fact E0:=bM 232 Proofs.Tryz.f232 rfl rfl rfl [.g nU] (fun Mj Oe mTo mA mFile GZ=>.ob (jT mA/\jT mFile) (.str (CX (⟨Mj,Oe,mTo,mA,mFile,GZ⟩:dW)))) [RD,Pm,Pk,Pj,Ph] [] (by
   intro Mj Oe mTo mA mFile GZ;refine fD rfl rfl fun hb hk=>?_
   unfold jT at hb;have:=bY mA;have:=bY mFile;have:=wi3 Mj Oe mTo;have:=WI GZ
   repeat' first|(refine w_ ?_;first|(apply aP;focus ((repeat rw [ByteArray.size_append])<;>omega))|refine bO bK trivial ?_|(refine Or.inr (Or.inl ⟨[1,0,1,0,1,0,2,0,1,0,0,1,1,0,0,1,1,0,2,0,1,1],(.take 0 (.take 2 (.take 4 (.take 8 (.take 12 (.take 16 (.take 1 (.take 3 (.take 5 (.take 9 (.take 13 (.take 17 (.two 6 (.take 7 (.take 10 (.take 11 (.take 14 (.take 15 (.one 18 (.take 19 (.take 20 (.take 21 .done))))))))) 18 (.one 6 (.take 7 (.take 10 (.take 11 (.take 14 (.take 15 (.take 19 (.take 20 (.take 21 .done)))))))))))))))))))))),by decide +kernel,?_⟩))|(refine And.intro ?_ ?_))|apply B_<;>intro h hc|apply I_;intro h
   all_goals conv=>whnf
   all_goals rfl)
def F_Ec:Fact E0:=bM 236 Proofs.Tryz.f236 rfl rfl rfl [.g fC] (fun Mj Oe mTo mF=>.ok (.str (Ed (⟨Mj,Oe,mTo,mF⟩:iH)))) [Pm,Pk,Pj,Ph] [] kI
def F_EQ:Fact E0:=bM 227 Proofs.Tryz.f227 rfl rfl rfl [.l 9,.k 228 [] []] (fun l=>.ob (@ln (ah 9) l<=1048576/\∀ k:Nat,k<@ln (ah 9) l->jT ((gt 9 l k)).Name) (.str (rT (@ln (ah 9) l) (fun k=>tC (gt 9 l k))))) [Pg,F_EY] [] (by
   intro l;refine fD rfl rfl fun hb hk=>?_
   have hsz:∀ j:Nat,j<@ln (ah 9) l->((fun k=>tC (gt 9 l k)) j).size<=4194304:=fun j hj=>zM (hb.2 j hj)
   have hw:=zk (@ln (ah 9) l);have hn:@ln (ah 9) l<=1048576:=hb.1;have h1:@ln (ah 3) (jf (@ln (ah 9) l:Nat)).data.toList<=70368744177664:=by omega
   simp only [know]at hk
   repeat' first|(refine w_ ?_;first|refine bO bK trivial ?_|(refine Or.inl ⟨_,_,_,_,[0],nk h1,rfl,rfl,rfl,rfl,rfl,(aK trivial),?_⟩;(rintro _ _ _ ⟨rfl,rfl,rfl⟩;refine aK (aK ?_))))|apply B_<;>intro h hc|apply I_;intro h
   all_goals conv=>whnf
   refine Or.inr (Or.inr ⟨[],[14],[],[0],[1,5,12,13],[1],?_⟩);conv=>whnf
   refine⟨fun(s:Int×Unit) (t:(Unit×Unit×Unit)×(Li 3×Unit))=>0<=s.1/\s.1<=(@ln (ah 9) l:Nat)/\t.2.1=Ea (jf (@ln (ah 9) l:Nat)).data.toList (fun k=>tC (gt 9 l k)) s.1.toNat,fun(s:Int×Unit) _=>((@ln (ah 9) l:Nat)-s.1).toNat,?_⟩
   conv=>whnf
   refine eZ.mk ⟨bg,bg,rfl⟩ bA ?_
   rintro⟨(k:Int),_⟩ ⟨⟨_,_,_⟩,(o:Li 3),_⟩ ⟨g0,g1,gS⟩
   try dsimp only at g0 g1 gS
   obtain⟨k,rfl⟩:=cO g0;rw [bP]at gS;subst gS;have hll:=rU (N:=(jf (@ln (ah 9) l:Nat)).data.toList) (f:=(fun k=>tC (gt 9 l k))) (B:=4194304) k fun j hj=>hsz j au
   have hpk:k<@ln (ah 9) l->_:=fun hk=>hb.2 k hk
   have hkb:k*4194304<=1048576*4194304:=Nat.mul_le_mul_right _ au
   have hsk:k<@ln (ah 9) l->@ln (ah 3) (Ea (jf (@ln (ah 9) l:Nat)).data.toList (fun k=>tC (gt 9 l k)) k)+@ln (ah 3) ((fun k=>tC (gt 9 l k)) k).data.toList<=70368744177664:=fun hk=>by
     have h2:=hsz k hk;have e:@ln (ah 3) ((fun k=>tC (gt 9 l k)) k).data.toList=((fun k=>tC (gt 9 l k)) k).size:=(Lib.size_eq _).symm
     rw [e];omega
   have hs0:0<@ln (ah 3) (Ea (jf (@ln (ah 9) l:Nat)).data.toList (fun k=>tC (gt 9 l k)) k):=by omega
   repeat' first|(refine w_ ?_;first|(apply aP;focus (exact hpk au))|refine bO bK trivial ?_|(refine Or.inl ⟨_,_,_,_,[0,2],jS (hsk au),rfl,rfl,rfl,rfl,rfl,(aK (aK trivial)),?_⟩;(rintro _ _ _ ⟨rfl,rfl,rfl⟩;refine aK (aK ?_)))|(refine Or.inl ⟨_,_,_,_,[0,2],lG hs0,rfl,rfl,rfl,rfl,rfl,(aK (aK trivial)),?_⟩;(rintro _ _ _ ⟨rfl,rfl,rfl⟩;refine aK (aK ?_))))|apply B_<;>intro h hc|apply I_;intro h
   all_goals conv=>whnf
   all_goals first
    |(refine⟨bg,bg,?_⟩;rfl)
    |(
       have ek:k=@ln (ah 9) l:=by omega
       subst ek
       rfl))
def F_EP:Fact E0:=bM 229 Proofs.Tryz.f229 rfl rfl rfl [.l 11,.k 230 [] []] (fun l=>.ob (@ln (ah 11) l<=1048576/\∀ k:Nat,k<@ln (ah 11) l->jT ((gt 11 l k)).File) (.str (rT (@ln (ah 11) l) (fun k=>tJ (gt 11 l k))))) [Pg,F_EZ] [] (by
   intro l;refine fD rfl rfl fun hb hk=>?_
   have hsz:∀ j:Nat,j<@ln (ah 11) l->((fun k=>tJ (gt 11 l k)) j).size<=4194304:=fun j hj=>zO (hb.2 j hj)
   have hw:=zk (@ln (ah 11) l);have hn:@ln (ah 11) l<=1048576:=hb.1;have h1:@ln (ah 3) (jf (@ln (ah 11) l:Nat)).data.toList<=70368744177664:=by omega
   simp only [know]at hk
   repeat' first|(refine w_ ?_;first|refine bO bK trivial ?_|(refine Or.inl ⟨_,_,_,_,[0],nk h1,rfl,rfl,rfl,rfl,rfl,(aK trivial),?_⟩;(rintro _ _ _ ⟨rfl,rfl,rfl⟩;refine aK (aK ?_))))|apply B_<;>intro h hc|apply I_;intro h
   all_goals conv=>whnf
   refine Or.inr (Or.inr ⟨[],[14],[],[0],[1,5,12,13],[1],?_⟩);conv=>whnf
   refine⟨fun(s:Int×Unit) (t:(Unit×Unit×Unit)×(Li 3×Unit))=>0<=s.1/\s.1<=(@ln (ah 11) l:Nat)/\t.2.1=Ea (jf (@ln (ah 11) l:Nat)).data.toList (fun k=>tJ (gt 11 l k)) s.1.toNat,fun(s:Int×Unit) _=>((@ln (ah 11) l:Nat)-s.1).toNat,?_⟩
   conv=>whnf
   refine eZ.mk ⟨bg,bg,rfl⟩ bA ?_
   rintro⟨(k:Int),_⟩ ⟨⟨_,_,_⟩,(o:Li 3),_⟩ ⟨g0,g1,gS⟩
   try dsimp only at g0 g1 gS
   obtain⟨k,rfl⟩:=cO g0;rw [bP]at gS;subst gS;have hll:=rU (N:=(jf (@ln (ah 11) l:Nat)).data.toList) (f:=(fun k=>tJ (gt 11 l k))) (B:=4194304) k fun j hj=>hsz j au
   have hpk:k<@ln (ah 11) l->_:=fun hk=>hb.2 k hk
   have hkb:k*4194304<=1048576*4194304:=Nat.mul_le_mul_right _ au
   have hsk:k<@ln (ah 11) l->@ln (ah 3) (Ea (jf (@ln (ah 11) l:Nat)).data.toList (fun k=>tJ (gt 11 l k)) k)+@ln (ah 3) ((fun k=>tJ (gt 11 l k)) k).data.toList<=70368744177664:=fun hk=>by
     have h2:=hsz k hk;have e:@ln (ah 3) ((fun k=>tJ (gt 11 l k)) k).data.toList=((fun k=>tJ (gt 11 l k)) k).size:=(Lib.size_eq _).symm
     rw [e];omega
   have hs0:0<@ln (ah 3) (Ea (jf (@ln (ah 11) l:Nat)).data.toList (fun k=>tJ (gt 11 l k)) k):=by omega
   repeat' first|(refine w_ ?_;first|(apply aP;focus (exact hpk au))|refine bO bK trivial ?_|(refine Or.inl ⟨_,_,_,_,[0,2],jS (hsk au),rfl,rfl,rfl,rfl,rfl,(aK (aK trivial)),?_⟩;(rintro _ _ _ ⟨rfl,rfl,rfl⟩;refine aK (aK ?_)))|(refine Or.inl ⟨_,_,_,_,[0,2],lG hs0,rfl,rfl,rfl,rfl,rfl,(aK (aK trivial)),?_⟩;(rintro _ _ _ ⟨rfl,rfl,rfl⟩;refine aK (aK ?_))))|apply B_<;>intro h hc|apply I_;intro h
   all_goals conv=>whnf
   all_goals first
    |(refine⟨bg,bg,?_⟩;rfl)
    |(
       have ek:k=@ln (ah 11) l:=by omega
       subst ek
       rfl))
def F_EO:Fact E0:=bM 231 Proofs.Tryz.f231 rfl rfl rfl [.l 13,.k 232 [] []] (fun l=>.ob (@ln (ah 13) l<=1048576/\∀ k:Nat,k<@ln (ah 13) l->(jT ((gt 13 l k)).Name/\jT ((gt 13 l k)).File)) (.str (rT (@ln (ah 13) l) (fun k=>CX (gt 13 l k))))) [Pg,F_Ea] [] (by
   intro l;refine fD rfl rfl fun hb hk=>?_
   have hsz:∀ j:Nat,j<@ln (ah 13) l->((fun k=>CX (gt 13 l k)) j).size<=4194304:=fun j hj=>CY (hb.2 j hj)
   have hw:=zk (@ln (ah 13) l);have hn:@ln (ah 13) l<=1048576:=hb.1;have h1:@ln (ah 3) (jf (@ln (ah 13) l:Nat)).data.toList<=70368744177664:=by omega
   simp only [know]at hk
   repeat' first|(refine w_ ?_;first|refine bO bK trivial ?_|(refine Or.inl ⟨_,_,_,_,[0],nk h1,rfl,rfl,rfl,rfl,rfl,(aK trivial),?_⟩;(rintro _ _ _ ⟨rfl,rfl,rfl⟩;refine aK (aK ?_))))|apply B_<;>intro h hc|apply I_;intro h
   all_goals conv=>whnf
   refine Or.inr (Or.inr ⟨[],[14],[],[0],[1,5,12,13],[1],?_⟩);conv=>whnf
   refine⟨fun(s:Int×Unit) (t:(Unit×Unit×Unit)×(Li 3×Unit))=>0<=s.1/\s.1<=(@ln (ah 13) l:Nat)/\t.2.1=Ea (jf (@ln (ah 13) l:Nat)).data.toList (fun k=>CX (gt 13 l k)) s.1.toNat,fun(s:Int×Unit) _=>((@ln (ah 13) l:Nat)-s.1).toNat,?_⟩
   conv=>whnf
   refine eZ.mk ⟨bg,bg,rfl⟩ bA ?_
   rintro⟨(k:Int),_⟩ ⟨⟨_,_,_⟩,(o:Li 3),_⟩ ⟨g0,g1,gS⟩
   try dsimp only at g0 g1 gS
   obtain⟨k,rfl⟩:=cO g0;rw [bP]at gS;subst gS;have hll:=rU (N:=(jf (@ln (ah 13) l:Nat)).data.toList) (f:=(fun k=>CX (gt 13 l k))) (B:=4194304) k fun j hj=>hsz j au
   have hpk:k<@ln (ah 13) l->_:=fun hk=>hb.2 k hk
   have hkb:k*4194304<=1048576*4194304:=Nat.mul_le_mul_right _ au
   have hsk:k<@ln (ah 13) l->@ln (ah 3) (Ea (jf (@ln (ah 13) l:Nat)).data.toList (fun k=>CX (gt 13 l k)) k)+@ln (ah 3) ((fun k=>CX (gt 13 l k)) k).data.toList<=70368744177664:=fun hk=>by
     have h2:=hsz k hk;have e:@ln (ah 3) ((fun k=>CX (gt 13 l k)) k).data.toList=((fun k=>CX (gt 13 l k)) k).size:=(Lib.size_eq _).symm
     rw [e];omega
   have hs0:0<@ln (ah 3) (Ea (jf (@ln (ah 13) l:Nat)).data.toList (fun k=>CX (gt 13 l k)) k):=by omega
   repeat' first|(refine w_ ?_;first|(apply aP;focus (exact hpk au))|refine bO bK trivial ?_|(refine Or.inl ⟨_,_,_,_,[0,2],jS (hsk au),rfl,rfl,rfl,rfl,rfl,(aK (aK trivial)),?_⟩;(rintro _ _ _ ⟨rfl,rfl,rfl⟩;refine aK (aK ?_)))|(refine Or.inl ⟨_,_,_,_,[0,2],lG hs0,rfl,rfl,rfl,rfl,rfl,(aK (aK trivial)),?_⟩;(rintro _ _ _ ⟨rfl,rfl,rfl⟩;refine aK (aK ?_))))|apply B_<;>intro h hc|apply I_;intro h
   all_goals conv=>whnf
   all_goals first
    |(refine⟨bg,bg,?_⟩;rfl)
    |(
       have ek:k=@ln (ah 13) l:=by omega
       subst ek
       rfl))
def F_EN:Fact E0:=bM 235 Proofs.Tryz.f235 rfl rfl rfl [.l 17,.k 236 [] []] (fun l=>.ob (@ln (ah 17) l<=1048576/\∀ k:Nat,k<@ln (ah 17) l->True) (.str (rT (@ln (ah 17) l) (fun k=>Ed (gt 17 l k))))) [Pg,F_Ec] [] (by
   intro l;refine fD rfl rfl fun hb hk=>?_
   have hsz:∀ j:Nat,j<@ln (ah 17) l->((fun k=>Ed (gt 17 l k)) j).size<=4194304:=fun j hj=>Dj
   have hw:=zk (@ln (ah 17) l);have hn:@ln (ah 17) l<=1048576:=hb.1;have h1:@ln (ah 3) (jf (@ln (ah 17) l:Nat)).data.toList<=70368744177664:=by omega
   simp only [know]at hk
   repeat' first|(refine w_ ?_;first|refine bO bK trivial ?_|(refine Or.inl ⟨_,_,_,_,[0],nk h1,rfl,rfl,rfl,rfl,rfl,(aK trivial),?_⟩;(rintro _ _ _ ⟨rfl,rfl,rfl⟩;refine aK (aK ?_))))|apply B_<;>intro h hc|apply I_;intro h
   all_goals conv=>whnf
   refine Or.inr (Or.inr ⟨[],[14],[],[0],[1,5,12,13],[1],?_⟩);conv=>whnf
   refine⟨fun(s:Int×Unit) (t:(Unit×Unit×Unit)×(Li 3×Unit))=>0<=s.1/\s.1<=(@ln (ah 17) l:Nat)/\t.2.1=Ea (jf (@ln (ah 17) l:Nat)).data.toList (fun k=>Ed (gt 17 l k)) s.1.toNat,fun(s:Int×Unit) _=>((@ln (ah 17) l:Nat)-s.1).toNat,?_⟩
   conv=>whnf
   refine eZ.mk ⟨bg,bg,rfl⟩ bA ?_
   rintro⟨(k:Int),_⟩ ⟨⟨_,_,_⟩,(o:Li 3),_⟩ ⟨g0,g1,gS⟩
   try dsimp only at g0 g1 gS
   obtain⟨k,rfl⟩:=cO g0;rw [bP]at gS;subst gS;have hll:=rU (N:=(jf (@ln (ah 17) l:Nat)).data.toList) (f:=(fun k=>Ed (gt 17 l k))) (B:=4194304) k fun j hj=>hsz j au
   have hpk:k<@ln (ah 17) l->_:=fun hk=>hb.2 k hk
   have hkb:k*4194304<=1048576*4194304:=Nat.mul_le_mul_right _ au
   have hsk:k<@ln (ah 17) l->@ln (ah 3) (Ea (jf (@ln (ah 17) l:Nat)).data.toList (fun k=>Ed (gt 17 l k)) k)+@ln (ah 3) ((fun k=>Ed (gt 17 l k)) k).data.toList<=70368744177664:=fun hk=>by
     have h2:=hsz k hk;have e:@ln (ah 3) ((fun k=>Ed (gt 17 l k)) k).data.toList=((fun k=>Ed (gt 17 l k)) k).size:=(Lib.size_eq _).symm
     rw [e];omega
   have hs0:0<@ln (ah 3) (Ea (jf (@ln (ah 17) l:Nat)).data.toList (fun k=>Ed (gt 17 l k)) k):=by omega
   repeat' first|(refine w_ ?_;first|(apply aP;focus (exact hpk au))|refine bO bK trivial ?_|(refine Or.inl ⟨_,_,_,_,[0,2],jS (hsk au),rfl,rfl,rfl,rfl,rfl,(aK (aK trivial)),?_⟩;(rintro _ _ _ ⟨rfl,rfl,rfl⟩;refine aK (aK ?_)))|(refine Or.inl ⟨_,_,_,_,[0,2],lG hs0,rfl,rfl,rfl,rfl,rfl,(aK (aK trivial)),?_⟩;(rintro _ _ _ ⟨rfl,rfl,rfl⟩;refine aK (aK ?_))))|apply B_<;>intro h hc|apply I_;intro h
   all_goals conv=>whnf
   all_goals first
    |(refine⟨bg,bg,?_⟩;rfl)
    |(
       have ek:k=@ln (ah 17) l:=by omega
       subst ek
       rfl))
def tgB (N:Li 19) (I:Li 21) (t:bE):ByteArray :=
 bif (decide (t.Kind=0)&&decide (0<=t.N))&&decide (t.N<N.length)then o9 t.Kind++(pR (gt 19 N t.N.toNat).Obj++pR (gt 19 N t.N.toNat).gD++o9 t.Off)++o9 t.Size
 else bif (decide (t.Kind=1)&&decide (0<=t.N))&&decide (t.N<I.length)then o9 t.Kind++(pR (gt 21 I t.N.toNat).Name++pR (gt 21 I t.N.toNat).Version)++o9 t.Size
 else o9 t.Kind++o9 t.Size
def Sc (N:Li 19) (I:Li 21) (t:bE):Prop :=
 (t.Kind=0->0<=t.N/\t.N<N.length/\jT (gt 19 N t.N.toNat).Obj/\jT (gt 19 N t.N.toNat).gD)/\(t.Kind=1->0<=t.N/\t.N<I.length/\jT (gt 21 I t.N.toNat).Name/\jT (gt 21 I t.N.toNat).Version)
theorem wo {N:Li 19} {I:Li 21} {t:bE} (h:Sc N I t):(tgB N I t).size<=3000000:=by
 unfold Sc jT at h;unfold tgB;have h1:=WI t.Kind;have h2:=WI t.Size;have h3:=WI t.Off
 cases ha:(decide (t.Kind=0)&&decide (0<=t.N))&&decide (t.N<N.length)with
 |true =>
   simp only [bs]at ha;have hb:=h.1 ha.1.1;have h4:=bY (gt 19 N t.N.toNat).Obj;have h5:=bY (gt 19 N t.N.toNat).gD;rw [cond_true]
   repeat rw [ByteArray.size_append]
   omega
 |false =>
   rw [cond_false]
   cases hc:(decide (t.Kind=1)&&decide (0<=t.N))&&decide (t.N<I.length)with
   |true =>
     simp only [bs]at hc;have hb:=h.2 hc.1.1;have h4:=bY (gt 21 I t.N.toNat).Name;have h5:=bY (gt 21 I t.N.toNat).Version;rw [cond_true]
     repeat rw [ByteArray.size_append]
     omega
   |false =>
     rw [cond_false]
     repeat rw [ByteArray.size_append]
     omega
def Cy (N:Li 19) (I:Li 21) (r:gX):ByteArray:=BH r.At r.Kind++tgB N I r.To++o9 r.Add
def BM (N:Li 19) (I:Li 21) (v:bQ):ByteArray:=BH v.From v.To++pR v.Name++BH v.Where v.N++tgB N I v.Target
theorem Cw {N:Li 19} {I:Li 21} {r:gX} (h:Sc N I r.To):(Cy N I r).size<=4194304:=by
 unfold Cy;rw [ByteArray.size_append,ByteArray.size_append];have:=wo h;have:=wi2 r.At r.Kind;have:=WI r.Add;omega
theorem BL {N:Li 19} {I:Li 21} {v:bQ} (h:Sc N I v.Target/\jT v.Name):(BM N I v).size<=4194304:=by
 unfold BM;obtain⟨h,h0⟩:=h;unfold jT at h0;rw [ByteArray.size_append,ByteArray.size_append,ByteArray.size_append];have:=wo h;have:=bY v.Name;have:=wi2 v.From v.To;have:=wi2 v.Where v.N;omega
def F_Dn:Fact E0:=bM 149 Proofs.Tryz.f149 rfl rfl rfl [.g fC,.p dH,.p [.b]] (fun nM tN zu qI _ _ aj ak _ _ _ _ _ _ _ _ _ _ _=>.ob (Sc aj ak (⟨nM,tN,zu,qI⟩:bE)) (.str (tgB aj ak (⟨nM,tN,zu,qI⟩:bE)))) [RD,Pm,Pk,Pj,Ph] [] (by
   intro nM tN zu qI _ _ aj ak
   repeat intro _
   refine fD rfl rfl fun hb hk=>?_
   have hs:=wo hb;have hb0:nM=0->0<=tN/\tN<(aj.length:Int)/\((gt 19 aj tN.toNat).Obj.size:Int)<=1048576/\((gt 19 aj tN.toNat).gD.size:Int)<=1048576:=hb.1;have hb1:nM=1->0<=tN/\tN<(ak.length:Int)/\((gt 21 ak tN.toNat).Name.size:Int)<=1048576/\((gt 21 ak tN.toNat).Version.size:Int)<=1048576:=hb.2;clear hb;have q1:=WI nM;have q2:=WI qI;have q3:=WI zu;have q4:=bY (gt 19 aj tN.toNat).Obj;have q5:=bY (gt 19 aj tN.toNat).gD;have q6:=bY (gt 21 ak tN.toNat).Name;have q7:=bY (gt 21 ak tN.toNat).Version
   repeat' first|(refine w_ ?_;first|(apply aP;focus ((repeat rw [ByteArray.size_append])<;>omega))|refine bO bK trivial ?_)|apply B_<;>intro h hc|apply I_;intro h
   all_goals conv=>whnf
   all_goals first
    |(exfalso;omega)
    |(unfold tgB;(repeat (first|exact rfl|refine gW (by assumption) ?_|refine gB (by assumption) ?_|refine jY (by first|assumption|omega) ?_|refine jZ (by first|assumption|omega) ?_))))
def F_EX:Fact E0:=bM 226 Proofs.Tryz.f226 rfl rfl rfl [.g zH,.p [.k 149 [] [.p dH,.p [.b]]]] (fun pX dB dn jM dV dh jc _ _ aj ak _ _ _ _ _ _ _ _ _ _ _=>.ob (Sc aj ak ((⟨pX,dB,⟨dn,jM,dV,dh⟩,jc⟩:gX)).To) (.str (Cy aj ak (⟨pX,dB,⟨dn,jM,dV,dh⟩,jc⟩:gX)))) [F_Dn,Pm,Pk,Pj,Ph] [] (by
   intro pX dB dn jM dV dh jc _ _ aj ak
   repeat intro _
   refine fD rfl rfl fun hb hk=>?_
   have hs:=wo hb;have q1:=wi2 pX dB;have q2:=WI jc;replace hb:Sc aj ak ⟨dn,jM,dV,dh⟩:=hb;replace hs:(tgB aj ak ⟨dn,jM,dV,dh⟩).size<=3000000:=hs
   repeat' first|(refine w_ ?_;first|(apply aP;focus ((repeat rw [ByteArray.size_append])<;>omega))|refine bO bK @hb ?_|(refine Or.inr (Or.inl ⟨[1,0,1,0,2,0,0,1,0,0,1,1,0,2,0,1,1],(.take 0 (.take 2 (.take 7 (.take 11 (.take 1 (.take 3 (.take 6 (.take 8 (.take 12 (.two 4 (.take 5 (.take 9 (.take 10 (.one 13 (.take 14 (.take 15 (.take 16 .done))))))) 13 (.one 4 (.take 5 (.take 9 (.take 10 (.take 14 (.take 15 (.take 16 .done))))))))))))))))),by decide +kernel,?_⟩))|(refine And.intro ?_ ?_))|apply B_<;>intro h hc|apply I_;intro h
   all_goals conv=>whnf
   all_goals rfl)
def F_Eb:Fact E0:=bM 234 Proofs.Tryz.f234 rfl rfl rfl [.g uK,.p [.k 149 [] [.p dH,.p [.b]]]] (fun qE PU lW lF vN eD iT gH fq _ _ aj ak _ _ _ _ _ _ _ _ _ _ _=>.ob (Sc aj ak ((⟨qE,PU,lW,lF,vN,⟨eD,iT,gH,fq⟩⟩:bQ)).Target/\jT lW) (.str (BM aj ak (⟨qE,PU,lW,lF,vN,⟨eD,iT,gH,fq⟩⟩:bQ)))) [F_Dn,RD,Pm,Pk,Pj,Ph] [] (by
   intro qE PU lW lF vN eD iT gH fq _ _ aj ak
   repeat intro _
   refine fD rfl rfl fun hb hk=>?_
   obtain⟨hb,h0⟩:=hb;unfold jT at h0;have hs:=wo hb;have q1:=wi2 qE PU;have q2:=wi2 lF vN;have q3:=bY lW;replace hb:Sc aj ak ⟨eD,iT,gH,fq⟩:=hb;replace hs:(tgB aj ak ⟨eD,iT,gH,fq⟩).size<=3000000:=hs
   repeat' first|(refine w_ ?_;first|(apply aP;focus ((repeat rw [ByteArray.size_append])<;>omega))|refine bO bK @hb ?_|(refine Or.inr (Or.inl ⟨[1,0,1,0,2,0,1,0,0,1,1,0,1,0,2,0,1,0,1,0,0,1,1],(.take 0 (.take 2 (.take 6 (.take 10 (.take 12 (.take 18 (.take 1 (.take 3 (.take 7 (.take 11 (.take 13 (.take 17 (.take 19 (.two 4 (.take 5 (.take 8 (.take 9 (.one 14 (.take 15 (.take 16 (.take 20 (.take 21 (.take 22 .done))))))))) 14 (.one 4 (.take 5 (.take 8 (.take 9 (.take 15 (.take 16 (.take 20 (.take 21 (.take 22 .done))))))))))))))))))))))),by decide +kernel,?_⟩))|(refine And.intro ?_ ?_))|apply B_<;>intro h hc|apply I_;intro h
   all_goals conv=>whnf
   all_goals rfl)
def F_ES:Fact E0:=bM 225 Proofs.Tryz.f225 rfl rfl rfl [.l 7,.k 226 [] [.p [.k 149 [] [.p dH,.p [.b]]]]] (fun l _ _ aj ak _ _ _ _ _ _ _ _ _ _ _=>.ob (@ln (ah 7) l<=1048576/\∀ k:Nat,k<@ln (ah 7) l->Sc aj ak ((gt 7 l k)).To) (.str (rT (@ln (ah 7) l) (fun k=>Cy aj ak (gt 7 l k))))) [Pg,F_EX] [] (by
   intro l _ _ aj ak _ _ _ _ _ _ _ _ _ _ o;refine fD rfl rfl fun hb hk=>?_
   have hsz:∀ j:Nat,j<@ln (ah 7) l->((fun k=>Cy aj ak (gt 7 l k)) j).size<=4194304:=fun j hj=>Cw (hb.2 j hj)
   have hw:=zk (@ln (ah 7) l);have hn:@ln (ah 7) l<=1048576:=hb.1;have h1:@ln (ah 3) (jf (@ln (ah 7) l:Nat)).data.toList<=70368744177664:=by omega
   simp only [know]at hk
   repeat' first|(refine w_ ?_;first|refine bO bK trivial ?_|(refine Or.inl ⟨_,_,_,_,[0],nk h1,rfl,rfl,rfl,rfl,rfl,(aK trivial),?_⟩;(rintro _ _ _ ⟨rfl,rfl,rfl⟩;refine aK (aK ?_))))|apply B_<;>intro h hc|apply I_;intro h
   all_goals conv=>whnf
   refine Or.inr (Or.inr ⟨[],[14],[],[0],[1,5,12,13],[1],?_⟩);conv=>whnf
   refine⟨fun(s:Int×Unit) (t:(Unit×Unit×Unit)×(Li 3×Unit))=>0<=s.1/\s.1<=(@ln (ah 7) l:Nat)/\t.2.1=Ea (jf (@ln (ah 7) l:Nat)).data.toList (fun k=>Cy aj ak (gt 7 l k)) s.1.toNat,fun(s:Int×Unit) _=>((@ln (ah 7) l:Nat)-s.1).toNat,?_⟩
   conv=>whnf
   refine eZ.mk ⟨bg,bg,rfl⟩ bA ?_
   rintro⟨(k:Int),_⟩ ⟨⟨_,_,_⟩,(o:Li 3),_⟩ ⟨g0,g1,gS⟩
   try dsimp only at g0 g1 gS
   obtain⟨k,rfl⟩:=cO g0;rw [bP]at gS;subst gS;have hll:=rU (N:=(jf (@ln (ah 7) l:Nat)).data.toList) (f:=(fun k=>Cy aj ak (gt 7 l k))) (B:=4194304) k fun j hj=>hsz j au
   have hpk:k<@ln (ah 7) l->_:=fun hk=>hb.2 k hk
   have hkb:k*4194304<=1048576*4194304:=Nat.mul_le_mul_right _ au
   have hsk:k<@ln (ah 7) l->@ln (ah 3) (Ea (jf (@ln (ah 7) l:Nat)).data.toList (fun k=>Cy aj ak (gt 7 l k)) k)+@ln (ah 3) ((fun k=>Cy aj ak (gt 7 l k)) k).data.toList<=70368744177664:=fun hk=>by
     have h2:=hsz k hk;have e:@ln (ah 3) ((fun k=>Cy aj ak (gt 7 l k)) k).data.toList=((fun k=>Cy aj ak (gt 7 l k)) k).size:=(Lib.size_eq _).symm
     rw [e];omega
   have hs0:0<@ln (ah 3) (Ea (jf (@ln (ah 7) l:Nat)).data.toList (fun k=>Cy aj ak (gt 7 l k)) k):=by omega
   repeat' first|(refine w_ ?_;first|(apply aP;focus (exact hpk au))|refine bO bK trivial ?_|(refine Or.inl ⟨_,_,_,_,[0,2],jS (hsk au),rfl,rfl,rfl,rfl,rfl,(aK (aK trivial)),?_⟩;(rintro _ _ _ ⟨rfl,rfl,rfl⟩;refine aK (aK ?_)))|(refine Or.inl ⟨_,_,_,_,[0,2],lG hs0,rfl,rfl,rfl,rfl,rfl,(aK (aK trivial)),?_⟩;(rintro _ _ _ ⟨rfl,rfl,rfl⟩;refine aK (aK ?_))))|apply B_<;>intro h hc|apply I_;intro h
   all_goals conv=>whnf
   all_goals first
    |(refine⟨bg,bg,?_⟩;rfl)
    |(
       have ek:k=@ln (ah 7) l:=by omega
       subst ek
       rfl))
def F_ER:Fact E0:=bM 233 Proofs.Tryz.f233 rfl rfl rfl [.l 15,.k 234 [] [.p [.k 149 [] [.p dH,.p [.b]]]]] (fun l _ _ aj ak _ _ _ _ _ _ _ _ _ _ _=>.ob (@ln (ah 15) l<=1048576/\∀ k:Nat,k<@ln (ah 15) l->(Sc aj ak ((gt 15 l k)).Target/\jT ((gt 15 l k)).Name)) (.str (rT (@ln (ah 15) l) (fun k=>BM aj ak (gt 15 l k))))) [Pg,F_Eb] [] (by
   intro l _ _ aj ak _ _ _ _ _ _ _ _ _ _ o;refine fD rfl rfl fun hb hk=>?_
   have hsz:∀ j:Nat,j<@ln (ah 15) l->((fun k=>BM aj ak (gt 15 l k)) j).size<=4194304:=fun j hj=>BL (hb.2 j hj)
   have hw:=zk (@ln (ah 15) l);have hn:@ln (ah 15) l<=1048576:=hb.1;have h1:@ln (ah 3) (jf (@ln (ah 15) l:Nat)).data.toList<=70368744177664:=by omega
   simp only [know]at hk
   repeat' first|(refine w_ ?_;first|refine bO bK trivial ?_|(refine Or.inl ⟨_,_,_,_,[0],nk h1,rfl,rfl,rfl,rfl,rfl,(aK trivial),?_⟩;(rintro _ _ _ ⟨rfl,rfl,rfl⟩;refine aK (aK ?_))))|apply B_<;>intro h hc|apply I_;intro h
   all_goals conv=>whnf
   refine Or.inr (Or.inr ⟨[],[14],[],[0],[1,5,12,13],[1],?_⟩);conv=>whnf
   refine⟨fun(s:Int×Unit) (t:(Unit×Unit×Unit)×(Li 3×Unit))=>0<=s.1/\s.1<=(@ln (ah 15) l:Nat)/\t.2.1=Ea (jf (@ln (ah 15) l:Nat)).data.toList (fun k=>BM aj ak (gt 15 l k)) s.1.toNat,fun(s:Int×Unit) _=>((@ln (ah 15) l:Nat)-s.1).toNat,?_⟩
   conv=>whnf
   refine eZ.mk ⟨bg,bg,rfl⟩ bA ?_
   rintro⟨(k:Int),_⟩ ⟨⟨_,_,_⟩,(o:Li 3),_⟩ ⟨g0,g1,gS⟩
   try dsimp only at g0 g1 gS
   obtain⟨k,rfl⟩:=cO g0;rw [bP]at gS;subst gS;have hll:=rU (N:=(jf (@ln (ah 15) l:Nat)).data.toList) (f:=(fun k=>BM aj ak (gt 15 l k))) (B:=4194304) k fun j hj=>hsz j au
   have hpk:k<@ln (ah 15) l->_:=fun hk=>hb.2 k hk
   have hkb:k*4194304<=1048576*4194304:=Nat.mul_le_mul_right _ au
   have hsk:k<@ln (ah 15) l->@ln (ah 3) (Ea (jf (@ln (ah 15) l:Nat)).data.toList (fun k=>BM aj ak (gt 15 l k)) k)+@ln (ah 3) ((fun k=>BM aj ak (gt 15 l k)) k).data.toList<=70368744177664:=fun hk=>by
     have h2:=hsz k hk;have e:@ln (ah 3) ((fun k=>BM aj ak (gt 15 l k)) k).data.toList=((fun k=>BM aj ak (gt 15 l k)) k).size:=(Lib.size_eq _).symm
     rw [e];omega
   have hs0:0<@ln (ah 3) (Ea (jf (@ln (ah 15) l:Nat)).data.toList (fun k=>BM aj ak (gt 15 l k)) k):=by omega
   repeat' first|(refine w_ ?_;first|(apply aP;focus (exact hpk au))|refine bO bK trivial ?_|(refine Or.inl ⟨_,_,_,_,[0,2],jS (hsk au),rfl,rfl,rfl,rfl,rfl,(aK (aK trivial)),?_⟩;(rintro _ _ _ ⟨rfl,rfl,rfl⟩;refine aK (aK ?_)))|(refine Or.inl ⟨_,_,_,_,[0,2],lG hs0,rfl,rfl,rfl,rfl,rfl,(aK (aK trivial)),?_⟩;(rintro _ _ _ ⟨rfl,rfl,rfl⟩;refine aK (aK ?_))))|apply B_<;>intro h hc|apply I_;intro h
   all_goals conv=>whnf
   all_goals first
    |(refine⟨bg,bg,?_⟩;rfl)
    |(
       have ek:k=@ln (ah 15) l:=by omega
       subst ek
       rfl))
structure ndP (N:Li 19) (I:Li 21) (n:aM):Prop where
 obj:jT n.Obj
 sec:jT n.gD
 bytes:jT n.Bytes
 refs:@ln (ah 7) n.Refs<=1048576/\∀ k:Nat,k<@ln (ah 7) n.Refs->Sc N I (gt 7 n.Refs k).To
 marks:@ln (ah 9) n.Marks<=1048576/\∀ k:Nat,k<@ln (ah 9) n.Marks->jT (gt 9 n.Marks k).Name
 lines:@ln (ah 11) n.Lines<=1048576/\∀ k:Nat,k<@ln (ah 11) n.Lines->jT (gt 11 n.Lines k).File
 inls:@ln (ah 13) n.dK<=1048576/\∀ k:Nat,k<@ln (ah 13) n.dK->(jT (gt 13 n.dK k).Name/\jT (gt 13 n.dK k).File)
 vars:@ln (ah 15) n.Vars<=1048576/\∀ k:Nat,k<@ln (ah 15) n.Vars->(Sc N I (gt 15 n.Vars k).Target/\jT (gt 15 n.Vars k).Name)
 deps:@ln (ah 17) n.gy<=1048576/\∀ k:Nat,k<@ln (ah 17) n.gy->True
def lRef (N:Li 19) (I:Li 21) (l:Li 7):ByteArray:=rT (@ln (ah 7) l) fun k=>Cy N I (gt 7 l k)
def Tq (l:Li 9):ByteArray:=rT (@ln (ah 9) l) fun k=>tC (gt 9 l k)
def Tt (l:Li 11):ByteArray:=rT (@ln (ah 11) l) fun k=>tJ (gt 11 l k)
def lInl (l:Li 13):ByteArray:=rT (@ln (ah 13) l) fun k=>CX (gt 13 l k)
def lVar (N:Li 19) (I:Li 21) (l:Li 15):ByteArray:=rT (@ln (ah 15) l) fun k=>BM N I (gt 15 l k)
def lDep (l:Li 17):ByteArray:=rT (@ln (ah 17) l) fun k=>Ed (gt 17 l k)
def ndB (N:Li 19) (I:Li 21) (n:aM):ByteArray :=
 pR n.Obj++pR n.gD++Fb n.Kind n.Align n.Size++pR n.Bytes++lRef N I n.Refs++Tq n.Marks++Tt n.Lines++lInl n.dK++lVar N I n.Vars++lDep n.gy
def F_EW:Fact E0:=bM 152 Proofs.Tryz.f152 rfl rfl rfl [.g uL,.k 149 [] [.p dH,.p [.b]]] (fun uO uN jW jR iU nBytes iy dN dR bI dF cB _ _ aj ak _ _ _ _ _ _ _ _ _ _ _=>.ob (ndP aj ak (⟨uO,uN,jW,jR,iU,nBytes,iy,dN,dR,bI,dF,cB⟩:aM)) (.str (ndB aj ak (⟨uO,uN,jW,jR,iU,nBytes,iy,dN,dR,bI,dF,cB⟩:aM)))) [RD,F_ES,F_EQ,F_EP,F_EO,F_ER,F_EN,Pm,Pk,Pj,Ph] [] (by
   intro uO uN jW jR iU nBytes iy dN dR bI dF cB _ _ aj ak
   repeat intro _
   refine fD rfl rfl fun hb hk=>?_
   have h1:(uO.size:Int)<=1048576:=hb.obj;have h2:(uN.size:Int)<=1048576:=hb.sec;have h3:(nBytes.size:Int)<=1048576:=hb.bytes;have q1:=bY uO;have q2:=bY uN;have q3:=bY nBytes;have q4:=wi3 jW jR iU;have s_refs:(lRef aj ak iy).size<=4398046511115:=iG hb.refs.1 fun j hj=>Cw (hb.refs.2 j hj)
   have s_marks:(Tq dN).size<=4398046511115:=iG hb.marks.1 fun j hj=>zM (hb.marks.2 j hj)
   have s_lines:(Tt dR).size<=4398046511115:=iG hb.lines.1 fun j hj=>zO (hb.lines.2 j hj)
   have s_inls:(lInl bI).size<=4398046511115:=iG hb.inls.1 fun j hj=>CY (hb.inls.2 j hj)
   have s_vars:(lVar aj ak dF).size<=4398046511115:=iG hb.vars.1 fun j hj=>BL (hb.vars.2 j hj)
   have s_deps:(lDep cB).size<=4398046511115:=iG hb.deps.1 fun j hj=>Dj
   repeat' first|(refine w_ ?_;first|(apply aP;focus (first|((repeat rw [ByteArray.size_append])<;>(unfold lRef Tq Tt lInl lVar lDep at *)<;>omega)|((repeat rw [ByteArray.size_append])<;>omega)|exact hb.refs|exact hb.marks|exact hb.lines|exact hb.inls|exact hb.vars|exact hb.deps))|refine bO bK trivial ?_)|apply B_<;>intro h hc|apply I_;intro h
   all_goals conv=>whnf
   all_goals rfl)
end
end Go.SX
