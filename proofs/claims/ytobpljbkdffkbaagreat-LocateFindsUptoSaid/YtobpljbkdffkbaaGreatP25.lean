/- A part of the proof (texts B62, B63). -/
import Derived.Test.YtobpljbkdffkbaaGreatP16
import Derived.Test.YtobpljbkdffkbaaGreatP24
set_option linter.all false
set_option maxRecDepth 100000
namespace Go.SX
open Go.XK Go.RowKit
abbrev vdA (l:List (TabT 16)) (k:Nat):TVersionDef:=gt 16 l k
def ixB (l:List (TabT 16)) (k:Nat) (m:List (TabT 1×TabT 0)) (next:List (TabT 1×TabT 0)→List (TabT 1×TabT 0)):List (TabT 1×TabT 0):=bif !(mgetT m (vdA l k).Name).isSome then next (mputT m (vdA l k).Name (k:Int))else next m
def ixF (_:List (TabT 16)) (m:List (TabT 1×TabT 0)):List (TabT 1×TabT 0):=m
def ixS (l:List (TabT 16)):List (TabT 1×TabT 0):=lp (ixB l) (ixF l) (List.length (α:=TabT 16) l) 0 []
def vrI (T:List (TabT 1×TabT 0)) (i:Nat) (P:List (TabT 1)) (k:Nat) (s:List (TabT 1×TabT 2)×List (TabT 39)) (next:List (TabT 1×TabT 2)×List (TabT 39)→Bool):Bool :=
 bif !(mgetT T (gt 1 P k)).isSome||(mgetT s.1 (gt 1 P k)).getD false then false else next (mputT s.1 (gt 1 P k) true,@HAppend.hAppend (List (TabT 39)) (List (TabT 39)) (List (TabT 39)) _ s.2 [(⟨(i:Int),(mgetT T (gt 1 P k)).getD (0:Int)⟩:TArc)])
def vrF (l:List (TabT 16)) (k:Nat) (next:List (TabT 39)→Bool) (s:List (TabT 1×TabT 2)×List (TabT 39)):Bool:=bif !vName (vdA l k).Name then false else next s.2
def vrB (l:List (TabT 16)) (T:List (TabT 1×TabT 0)) (k:Nat) (A:List (TabT 39)) (next:List (TabT 39)→Bool):Bool:=lp (vrI T k (vdA l k).Parents) (vrF l k next) (List.length (α:=TabT 1) (vdA l k).Parents) 0 ([],A)
def vrE (l:List (TabT 16)) (_:List (TabT 1×TabT 0)) (A:List (TabT 39)):Bool:=decide ((List.length (α:=TabT 0) (cycS (List.length (α:=TabT 16) l) A):Int)=0)
def vRight (l:List (TabT 16)):Bool :=
 bif decide ((4096:Int)<(List.length (α:=TabT 16) l:Nat))then false
 else bif !decide ((List.length (ixS l):Int)=(List.length (α:=TabT 16) l:Nat))then false
 else lp (vrB l (ixS l)) (vrE l (ixS l)) (List.length (α:=TabT 16) l) 0 []
theorem mputT_len2 {k v:Nat} (x:TabT k) (y:TabT v):∀ l:List (TabT k×TabT v),(mputT l x y).length≤l.length+1
 |[]=>Nat.le_refl _
 |(a,u)::r=>by
   show List.length (if x=a then(x,y)::r else(a,u)::mputT r x y)≤_
   split
   ·exact Nat.le_succ _
   ·exact Nat.succ_le_succ (mputT_len2 x y r)
theorem ixS_len (l:List (TabT 16)):List.length (ixS l)≤List.length (α:=TabT 16) l:=by
 have h:∀ (r k:Nat) (m:List (TabT 1×TabT 0)),List.length (lp (ixB l) (ixF l) r k m)≤List.length m+r:=by
   intro r
   induction r with
   |zero=>intro k m;exact Nat.le_refl _
   |succ r ih =>
     intro k m;show List.length (bif !(mgetT m (vdA l k).Name).isSome then lp (ixB l) (ixF l) r (k+1) (mputT m (vdA l k).Name (k:Int))else lp (ixB l) (ixF l) r (k+1) m)≤_
     cases hq:!(mgetT m (vdA l k).Name).isSome with
     |true =>
       have h1:=ih (k+1) (mputT m (vdA l k).Name (k:Int));have h2:=mputT_len2 (k:=1) (v:=0) (vdA l k).Name (k:Int) m;show List.length (lp (ixB l) (ixF l) r (k+1) (mputT m (vdA l k).Name (k:Int)))≤_;omega
     |false =>
       have h1:=ih (k+1) m;show List.length (lp (ixB l) (ixF l) r (k+1) m)≤_;omega
 have:=h (List.length (α:=TabT 16) l) 0 [];show List.length (lp (ixB l) (ixF l) _ 0 [])≤_;exact Nat.le_trans this (by show 0+_≤_;omega)
def vpS (l:List (TabT 16)) (k:Nat):Nat:=((l.drop k).map fun x:TabT 16=>List.length (α:=TabT 1) (show TVersionDef from x).Parents).sum
theorem vpS_s {l:List (TabT 16)} {k:Nat} (h:k<List.length (α:=TabT 16) l):vpS l k=List.length (α:=TabT 1) (vdA l k).Parents+vpS l (k+1):=by
 unfold vpS;have e:vdA l k=l[k]:=by unfold vdA gt;rw [List.getD_eq_getElem?_getD,List.getElem?_eq_getElem h];rfl
 rw [List.drop_eq_getElem_cons h,List.map_cons,List.sum_cons,e]
def vOk (l:List (TabT 16)):Prop:=vpS l 0≤1099511627776∧∀ k,k<List.length (α:=TabT 16) l→((vdA l k).Name.size:Int)≤140737488355328
noncomputable def I_Br:Inl E0:=Inl.of 101 Proofs.Tryz.f101 rfl rfl (by unfold FnOK;kernel_rfl)
set_option maxHeartbeats 8000000 in
@[reducible] def a_DE:List SV→PR
 |[.lst z 16 l]=>.ob (vOk l) (.b (vRight l))
 |_=>.no
set_option maxHeartbeats 8000000 in
theorem o_ER:FOK 58 a_DE:=by
 intro args m ids vs hG hm hv;unfold a_DE;split
 ·rename_i z l;intro hb;refine calls_fact (DB:=[F_AD,F_BT]) (IL:=[I_Br]) (WL:=[]) (fn:=Proofs.Tryz.f58) rfl rfl rfl rfl rfl rfl (fun hk=>?_) m ids vs hG hm hv
  clear hG hm hv;simp only [know]at hk;obtain⟨hb1,hb2⟩:=hb
  repeat' (refine bc_ fun g_=>?_;(conv at g_=>(arg 1;whnf));refine g_ ?_;clear g_;first|(intro bq;cases bq;rotate_left;(focus (intro hbq;exact absurd (hbq rfl) (by omega)));intro _)|((fail_if_success (apply cH_));(fail_if_success (apply uR_));apply Or.inl)|(apply rn_;exact rm_;exact me_)|(apply mt_;exact me_)|(apply ob0_;first|exact obc_|(exact of_decide_eq_true rfl))|(apply And.intro<;>(intro h;have hc:=h;(try exact nc1_ hc);(try exact nc2_ hc);try simp only [bs]at h))|(intro h;(try (unfold und at h;conv at h=>whnf));try simp only [bs]at h)|(apply wr0_;exact wrc_)|(apply wg0_;exact wgc_))
  all_goals (conv=>whnf)
  ·unfold vRight;exact eq_ct (by assumption) rfl
  refine Or.inr (Or.inr ⟨[],[11],[],[0],[3,9,10],[],?_⟩);conv=>whnf
  refine⟨fun(s:Int×Unit) (t:List (TabT 1×TabT 0)×Unit)=>∃ k:Nat,s.1=k∧k≤List.length (α:=TabT 16) l∧ixS l=lp (ixB l) (ixF l) (List.length (α:=TabT 16) l-k) k t.1,fun(s:Int×Unit) _=>((List.length (α:=TabT 16) l:Nat)-s.1).toNat,?_⟩
  conv=>whnf
  refine Ini.mk ⟨0,rfl,Nat.zero_le _,rfl⟩ me_ ?_;rintro⟨(k:Int),_⟩ ⟨(m0:List (TabT 1×TabT 0)),_⟩ ⟨k,hk1,hk2,hS⟩;replace hk1:_=(k:Int):=hk1;subst hk1;replace hk2:k≤List.length (α:=TabT 16) l:=hk2;replace hS:ixS l=lp (ixB l) (ixF l) (List.length (α:=TabT 16) l-k) k m0:=hS;refine gK fun K hK=>?_
  by_cases hkl:k<List.length (α:=TabT 16) l
  ·have hd:decide ((k:Int)<(List.length (α:=TabT 16) l:Nat))=true:=decide_eq_true (by omega)
   repeat' ((try refine gKe (by assumption) ?_);refine bc_ fun g_=>?_;(conv at g_=>(arg 1;whnf));refine g_ ?_;clear g_;first|(intro bq;cases bq;rotate_left;(focus (intro hbq;exact absurd (hbq rfl) (by omega)));intro _)|((fail_if_success (apply cH_));(fail_if_success (apply uR_));apply Or.inl)|(apply rn_;exact rm_;exact me_)|(apply mt_;exact me_)|(apply ob0_;first|exact obc_|(exact of_decide_eq_true rfl))|(apply And.intro<;>(intro h;have hc:=h;(try exact nc1_ hc);(try exact nc2_ hc);(try exact nc3_ hc);(try exact nc4_ hc);try simp only [bs]at h))|(intro h;(try (unfold und at h;conv at h=>whnf));try simp only [bs]at h)|(apply wr0_;exact wrc_)|(apply wg0_;exact wgc_)|refine gKe (by assumption) ?_)
   all_goals ((try refine gKe (by assumption) ?_);(conv=>whnf))
   ·refine⟨k+1,rfl,hkl,hS.trans ((lp_lt hkl).trans ?_)⟩;unfold ixB;exact(eq_ct hc rfl).symm
   ·refine⟨k+1,rfl,hkl,hS.trans ((lp_lt hkl).trans ?_)⟩;unfold ixB;exact(eq_cf hc rfl).symm
  have hd:decide ((k:Int)<(List.length (α:=TabT 16) l:Nat))=false:=decide_eq_false (by omega)
  have hI:ixS l=m0:=hS.trans (lp_z (by omega))
  repeat' ((try refine gKe (by assumption) ?_);refine bc_ fun g_=>?_;(conv at g_=>(arg 1;whnf));refine g_ ?_;clear g_;first|(intro bq;cases bq;rotate_left;(focus (intro hbq;exact absurd (hbq rfl) (by omega)));intro _)|((fail_if_success (apply cH_));(fail_if_success (apply uR_));apply Or.inl)|(apply rn_;exact rm_;exact me_)|(apply mt_;exact me_)|(apply ob0_;first|exact obc_|(exact of_decide_eq_true rfl))|(apply And.intro<;>(intro h;have hc:=h;(try exact nc1_ hc);(try exact nc2_ hc);(try exact nc3_ hc);(try exact nc4_ hc);try simp only [bs]at h))|(intro h;(try (unfold und at h;conv at h=>whnf));try simp only [bs]at h)|(apply wr0_;exact wrc_)|(apply wg0_;exact wgc_)|refine gKe (by assumption) ?_)
  all_goals ((try refine gKe (by assumption) ?_);(conv=>whnf))
  have hkn:List.length m0≤List.length (α:=TabT 16) l:=by rw [← hI];exact ixS_len l
  have ob1:((List.length m0:Nat):Int)≤9223372036854775807:=by omega
  repeat' ((try refine gKe (by assumption) ?_);refine bc_ fun g_=>?_;(conv at g_=>(arg 1;whnf));refine g_ ?_;clear g_;first|(intro bq;cases bq;rotate_left;(focus (intro hbq;exact absurd (hbq rfl) (by omega)));intro _)|((fail_if_success (apply cH_));(fail_if_success (apply uR_));apply Or.inl)|(apply rn_;exact rm_;exact me_)|(apply mt_;exact me_)|(apply ob0_;first|(exact ob1)|exact obc_|(exact of_decide_eq_true rfl))|(apply And.intro<;>(intro h;have hc:=h;(try exact nc1_ hc);(try exact nc2_ hc);(try exact nc3_ hc);(try exact nc4_ hc);try simp only [bs]at h))|(intro h;(try (unfold und at h;conv at h=>whnf));try simp only [bs]at h)|(apply wr0_;exact wrc_)|(apply wg0_;exact wgc_)|refine gKe (by assumption) ?_)
  all_goals ((try refine gKe (by assumption) ?_);(conv=>whnf))
  ·rw [show vRight l=false from ?_];unfold vRight;rw [hI];exact(eq_cf (by assumption) (eq_ct (by assumption) rfl)).symm
  have hR:vRight l=lp (vrB l m0) (vrE l m0) (List.length (α:=TabT 16) l) 0 []:=by
    unfold vRight;rw [hI];exact(eq_cf (by assumption) (eq_cf (by assumption) rfl)).symm
  refine Or.inr (Or.inr ⟨[(4,164,39)],[4,24,46,47,48],[],[],[0,3,22,23],[],?_⟩);conv=>whnf
  refine⟨fun(s:Unit×Int×Unit) (t:List (TabT 39)×Unit)=>∃ k:Nat,s.2.1=k∧k≤List.length (α:=TabT 16) l∧List.length t.1+vpS l k≤vpS l 0∧vRight l=lp (vrB l m0) (vrE l m0) (List.length (α:=TabT 16) l-k) k t.1,fun(s:Unit×Int×Unit) _=>((List.length (α:=TabT 16) l:Nat)-s.2.1).toNat,?_⟩
  conv=>whnf
  refine Ini.mk ⟨0,rfl,Nat.zero_le _,by show 0+vpS l 0≤vpS l 0;omega,hR⟩ me_ ?_
  rintro⟨_,(j:Int),_⟩ ⟨(A:List (TabT 39)),_⟩ ⟨j,hj1,hj2,hjv,hS2⟩;replace hj1:_=(j:Int):=hj1;subst hj1;replace hj2:j≤List.length (α:=TabT 16) l:=hj2;replace hjv:List.length A+vpS l j≤vpS l 0:=hjv;replace hS2:vRight l=lp (vrB l m0) (vrE l m0) (List.length (α:=TabT 16) l-j) j A:=hS2;refine gK fun K1 hK1=>?_
  by_cases hjl:j<List.length (α:=TabT 16) l
  ·have hd1:decide ((j:Int)<(List.length (α:=TabT 16) l:Nat))=true:=decide_eq_true (by omega)
   repeat' ((try refine gKe (by assumption) ?_);refine bc_ fun g_=>?_;(conv at g_=>(arg 1;whnf));refine g_ ?_;clear g_;first|(intro bq;cases bq;rotate_left;(focus (intro hbq;exact absurd (hbq rfl) (by omega)));intro _)|((fail_if_success (apply cH_));(fail_if_success (apply uR_));apply Or.inl)|(apply rn_;exact rm_;exact me_)|(apply mt_;exact me_)|(apply ob0_;first|exact obc_|(exact of_decide_eq_true rfl))|(apply And.intro<;>(intro h;have hc:=h;(try exact nc1_ hc);(try exact nc2_ hc);(try exact nc3_ hc);(try exact nc4_ hc);try simp only [bs]at h))|(intro h;(try (unfold und at h;conv at h=>whnf));try simp only [bs]at h)|(apply wr0_;exact wrc_)|(apply wg0_;exact wgc_)|refine gKe (by assumption) ?_)
   all_goals ((try refine gKe (by assumption) ?_);(conv=>whnf))
   have hvs:=vpS_s hjl;have hS2':vRight l=lp (vrI m0 j (vdA l j).Parents) (vrF l j fun a=>lp (vrB l m0) (vrE l m0) (List.length (α:=TabT 16) l-(j+1)) (j+1) a) (List.length (α:=TabT 1) (vdA l j).Parents) 0 ([],A):=hS2.trans (lp_lt hjl)
   generalize hP:(vdA l j).Parents=P at hvs hS2';refine Or.inr (Or.inr ⟨[(4,164,39)],[4,33,46,47,48],[],[3],[0,3,5,6,7,22,23,24,31,32],[1],?_⟩);conv=>whnf
   refine⟨fun(s:Unit×Int×Unit) (t:List (TabT 39)×(List (TabT 1×TabT 2)×Unit))=>∃ i:Nat,s.2.1=i∧i≤List.length (α:=TabT 1) P∧List.length t.1+(List.length (α:=TabT 1) P-i)+vpS l (j+1)≤vpS l 0∧vRight l=lp (vrI m0 j P) (vrF l j fun a=>lp (vrB l m0) (vrE l m0) (List.length (α:=TabT 16) l-(j+1)) (j+1) a) (List.length (α:=TabT 1) P-i) i (t.2.1,t.1),fun(s:Unit×Int×Unit) _=>((List.length (α:=TabT 1) P:Nat)-s.2.1).toNat,?_⟩
   conv=>whnf
   refine Ini.mk ⟨0,rfl,Nat.zero_le _,by show List.length A+(_-0)+_≤_;omega,hS2'⟩ me_ ?_
   rintro⟨_,(i:Int),_⟩ ⟨(A2:List (TabT 39)),(sn:List (TabT 1×TabT 2)),_⟩ ⟨i,hi1,hi2,hiv,hS3⟩;replace hi1:_=(i:Int):=hi1;subst hi1;replace hi2:i≤List.length (α:=TabT 1) P:=hi2;replace hiv:List.length A2+(List.length (α:=TabT 1) P-i)+vpS l (j+1)≤vpS l 0:=hiv;replace hS3:vRight l=lp (vrI m0 j P) (vrF l j fun a=>lp (vrB l m0) (vrE l m0) (List.length (α:=TabT 16) l-(j+1)) (j+1) a) (List.length (α:=TabT 1) P-i) i (sn,A2):=hS3
   refine gK fun K2 hK2=>?_
   have hPl:List.length (α:=TabT 1) (gt 16 l (j:Int).toNat).Parents=List.length (α:=TabT 1) P:=congrArg (List.length (α:=TabT 1)) hP
   by_cases hil:i<List.length (α:=TabT 1) P
   ·have hd2:decide ((i:Int)<(List.length (α:=TabT 1) (gt 16 l (j:Int).toNat).Parents:Nat))=true:=decide_eq_true (by omega)
    have hS4:=hS3.trans (lp_lt hil);have oa:(List.length A2+1)*16≤140737488355328:=by omega
    subst hP
    repeat' ((try refine gKe (by assumption) ?_);refine bc_ fun g_=>?_;(conv at g_=>(arg 1;whnf));refine g_ ?_;clear g_;first|(intro bq;cases bq;rotate_left;(focus (intro hbq;exact absurd (hbq rfl) (by omega)));intro _)|((fail_if_success (apply cH_));(fail_if_success (apply uR_));apply Or.inl)|(apply rn_;exact rm_;exact me_)|(apply mt_;exact me_)|(apply ob0_;first|(exact oa)|exact obc_|(exact of_decide_eq_true rfl))|(apply And.intro<;>(intro h;have hc:=h;(try exact nc1_ hc);(try exact nc2_ hc);(try exact nc3_ hc);(try exact nc4_ hc);try simp only [bs]at h))|(intro h;(try (unfold und at h;conv at h=>whnf));try simp only [bs]at h)|(apply wr0_;exact wrc_)|(apply wg0_;exact wgc_)|refine gKe (by assumption) ?_)
    all_goals ((try refine gKe (by assumption) ?_);(conv=>whnf))
    ·exact(hS4.trans (eq_ct hc rfl).symm).symm
    ·refine⟨i+1,rfl,hil,?_,hS4.trans (eq_cf hc rfl).symm⟩;show List.length (@HAppend.hAppend (List (TabT 39)) (List (TabT 39)) (List (TabT 39)) _ A2 [_])+_+_≤_;rw [List.length_append];show List.length A2+1+_+_≤_;omega
   have hd2:decide ((i:Int)<(List.length (α:=TabT 1) (gt 16 l (j:Int).toNat).Parents:Nat))=false:=decide_eq_false (by omega)
   have hS4:=hS3.trans (lp_z (by omega))
   have hnm:=hb2 j hjl
   repeat' ((try refine gKe (by assumption) ?_);refine bc_ fun g_=>?_;(conv at g_=>(arg 1;whnf));refine g_ ?_;clear g_;first|(intro bq;cases bq;rotate_left;(focus (intro hbq;exact absurd (hbq rfl) (by omega)));intro _)|((fail_if_success (apply cH_));(fail_if_success (apply uR_));apply Or.inl)|(apply rn_;exact rm_;exact me_)|(apply mt_;exact me_)|(apply ob0_;first|(exact hnm)|exact obc_|(exact of_decide_eq_true rfl))|(apply And.intro<;>(intro h;have hc:=h;(try exact nc1_ hc);(try exact nc2_ hc);(try exact nc3_ hc);(try exact nc4_ hc);try simp only [bs]at h))|(intro h;(try (unfold und at h;conv at h=>whnf));try simp only [bs]at h)|(apply wr0_;exact wrc_)|(apply wg0_;exact wgc_)|refine gKe (by assumption) ?_)
   all_goals ((try refine gKe (by assumption) ?_);(conv=>whnf))
   ·exact(hS4.trans (eq_ct hc rfl).symm).symm
   ·refine⟨j+1,rfl,hjl,?_,hS4.trans (eq_cf hc rfl).symm⟩;show List.length A2+vpS l (j+1)≤vpS l 0;omega
  have hd1:decide ((j:Int)<(List.length (α:=TabT 16) l:Nat))=false:=decide_eq_false (by omega)
  repeat' ((try refine gKe (by assumption) ?_);refine bc_ fun g_=>?_;(conv at g_=>(arg 1;whnf));refine g_ ?_;clear g_;first|(intro bq;cases bq;rotate_left;(focus (intro hbq;exact absurd (hbq rfl) (by omega)));intro _)|((fail_if_success (apply cH_));(fail_if_success (apply uR_));apply Or.inl)|(apply rn_;exact rm_;exact me_)|(apply mt_;exact me_)|(apply ob0_;first|exact obc_|(exact of_decide_eq_true rfl))|(apply And.intro<;>(intro h;have hc:=h;(try exact nc1_ hc);(try exact nc2_ hc);(try exact nc3_ hc);(try exact nc4_ hc);try simp only [bs]at h))|(intro h;(try (unfold und at h;conv at h=>whnf));try simp only [bs]at h)|(apply wr0_;exact wrc_)|(apply wg0_;exact wgc_)|refine gKe (by assumption) ?_)
  all_goals ((try refine gKe (by assumption) ?_);(conv=>whnf))
  exact(hS2.trans (lp_z (by omega))).symm
 ·trivial
noncomputable def F_BS:Fact E0:=Fact.co [.lst none 16 []] ⟨58,a_DE,by unfold FnOK;kernel_rfl,o_ER⟩
end Go.SX
namespace Go.SX
open Go.XK Go.RowKit
def SzB (s:ByteArray):Prop:=(s.size:Int)≤140737488355328
def vdL (s:ByteArray):List (TabT 16):=[(⟨s,[]⟩:TVersionDef)]
theorem vdL_ok {s:ByteArray} (h:SzB s):vOk (vdL s):=⟨by show 0+0≤_;decide,fun k hk=>by
 have hk:k<1:=hk;have e:k=0:=by omega
 subst e
 exact h⟩
def imName (s:ByteArray):Bool:=vRight (vdL s)
abbrev imNamed (s:ByteArray):Bool:=decide (s=⟨#[]⟩)||imName s
@[reducible] def a_Cb:List SV→PR
 |[.str s]=>.ob (SzB s) (.b (imName s))
 |_=>.no
theorem o_Dp:FOK 42 a_Cb:=by
 intro args m ids vs hG hm hv;unfold a_Cb;split
 ·rename_i s;intro hb;have hvd:=vdL_ok hb;refine calls_fact (DB:=[F_BS]) (IL:=[]) (WL:=[]) (fn:=Proofs.Tryz.f42) rfl rfl rfl rfl rfl rfl (fun hk=>?_) m ids vs hG hm hv
  clear hG hm hv
  repeat' (refine bc_ fun g_=>?_;(conv at g_=>(arg 1;whnf));refine g_ ?_;clear g_;first|((fail_if_success (apply cH_));(fail_if_success (apply uR_));apply Or.inl)|(apply rn_;exact rm_;exact me_)|(apply mt_;exact me_)|(apply ob0_;first|(exact hvd)|exact obc_)|(apply And.intro<;>(intro h;have hc:=h;try simp only [bs]at h))|(intro h;(try (unfold und at h;conv at h=>whnf));try simp only [bs]at h)|(apply wr0_;exact wrc_)|(apply wg0_;exact wgc_))
  all_goals (conv=>whnf)
  all_goals rfl
 ·trivial
noncomputable def F_Ap:Fact E0:=⟨42,a_Cb,by unfold FnOK;kernel_rfl,o_Dp⟩
@[reducible] def a_Cc:List SV→PR
 |[.str s]=>.ob (SzB s) (.b (decide (s=⟨#[]⟩)||imName s))
 |_=>.no
theorem o_Dq:FOK 53 a_Cc:=by
 intro args m ids vs hG hm hv;unfold a_Cc;split
 ·rename_i s;intro hb;refine calls_fact (DB:=[F_Ap]) (IL:=[]) (WL:=[]) (fn:=Proofs.Tryz.f53) rfl rfl rfl rfl rfl rfl (fun hk=>?_) m ids vs hG hm hv
  clear hG hm hv
  repeat' (refine bc_ fun g_=>?_;(conv at g_=>(arg 1;whnf));refine g_ ?_;clear g_;first|((fail_if_success (apply cH_));(fail_if_success (apply uR_));apply Or.inl)|(apply rn_;exact rm_;exact me_)|(apply mt_;exact me_)|(apply ob0_;first|(exact hb)|(exact fun _=>hb)|exact obc_)|(apply And.intro<;>(intro h;have hc:=h;try simp only [bs]at h))|(intro h;(try (unfold und at h;conv at h=>whnf));try simp only [bs]at h)|(apply wr0_;exact wrc_)|(apply wg0_;exact wgc_))
  all_goals (conv=>whnf)
  all_goals rfl
 ·trivial
noncomputable def F_Aq:Fact E0:=⟨53,a_Cc,by unfold FnOK;kernel_rfl,o_Dq⟩
end Go.SX
