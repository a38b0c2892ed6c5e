/- A part of the proof (texts B59, GRev, B42, B43, B44, GLoop, B37). -/
import Derived.Test.YtobpljbkdffkbaaGreatP16
import Derived.Test.YtobpljbkdffkbaaGreatP21
import Derived.Test.YtobpljbkdffkbaaGreatP22
set_option linter.all false
set_option maxRecDepth 100000
namespace Go.SX
open Go.XK Go.RowKit
theorem isr_one (r:Int):isort ([r]:List Int)=([r]:List Int):=List.mergeSort_singleton r
theorem hc_sort1 {z:Option Bool} {r:Int}:HC E0 24 1 [.osl 0] [(0,.arr 3 z 0 ([r]:List Int))] (fun s H n=>s=.tup []∧H=[(0,.arr 3 none 0 ([r]:List Int))]∧n=1):=by
 have h:=hc_sort z ([r]:List Int);rw [isr_one]at h;exact h
theorem hc_cmp1 {z:Option Bool} {r:Int}:HC E0 25 1 [.osl 0] [(0,.arr 3 z 0 ([r]:List Int))] (fun s H n=>s=.osl 1∧H=[(1,.arr 3 none 0 ([r]:List Int))]∧n=2):=hc_compact z ([r]:List Int)
def rOK (r n:Int):Prop:=0≤r∧r<n
def seB (n:Int) (arcs:List TArc) (r:Int):List Int×List Int:=((List.replicate n.toNat (-1:Int)).set r.toNat r,[r])
def search1 (n:Int) (arcs:List TArc) (r:Int):List Int:=(seS (nextS n arcs) (seB n arcs r) (n.toNat+1)).1
set_option maxHeartbeats 8000000 in
@[reducible] def a_Bx:List SV→PR
 |[.i n,.lst z 39 arcs,.lst (some false) 0 [r]]=>.ob (gOk n arcs∧rOK r n) (.lst none 0 (search1 n arcs r))
 |_=>.no
set_option maxHeartbeats 8000000 in
theorem o_DL:FOK 122 a_Bx:=by
 intro args m ids vs hG hm hv;unfold a_Bx;split
 ·rename_i n z arcs r;intro hb;refine calls_fact (DB:=[F_AH]) (IL:=[I_Bp]) (WL:=[]) (fn:=Proofs.Tryz.f122) rfl rfl rfl rfl rfl rfl (fun hk=>?_) m ids vs hG hm hv
  clear hG hm hv;simp only [know]at hk;obtain⟨hgo,hr0,hr1⟩:=hb;have hn0:0≤n:=hgo.1;have hn1:n≤262144:=hgo.2.1;obtain⟨r',hr'⟩:∃ r':Int,r'=r:=⟨r,rfl⟩;subst hr';obtain⟨n,rfl⟩:=Int.eq_ofNat_of_zero_le hn0
  repeat' (refine bc_ fun g_=>?_;(conv at g_=>(arg 1;whnf));refine g_ ?_;clear g_;first|(intro bq;cases bq;rotate_left;(focus (intro hbq;exact absurd (hbq rfl) (by omega)));intro _)|((fail_if_success (fail_if_success (apply Or.inl)));refine Or.inl ⟨_,_,_,_,[0],hc_rep (show n≤262144 by omega),rfl,rfl,rfl,rfl,rfl,(And.intro rfl trivial),?_⟩;(rintro _ _ _ ⟨rfl,rfl,rfl⟩;refine And.intro rfl (And.intro rfl ?_)))|((fail_if_success (fail_if_success (apply Or.inl)));refine Or.inl ⟨_,_,_,_,[3],hc_sort1,rfl,rfl,rfl,rfl,rfl,(And.intro rfl trivial),?_⟩;(rintro _ _ _ ⟨rfl,rfl,rfl⟩;refine And.intro rfl (And.intro rfl ?_)))|((fail_if_success (fail_if_success (apply Or.inl)));refine Or.inl ⟨_,_,_,_,[3],hc_cmp1,rfl,rfl,rfl,rfl,rfl,(And.intro rfl trivial),?_⟩;(rintro _ _ _ ⟨rfl,rfl,rfl⟩;refine And.intro rfl (And.intro rfl ?_)))|((fail_if_success (apply cH_));(fail_if_success (apply uR_));apply Or.inl)|(apply rn_;exact rm_;exact me_)|(apply mt_;exact me_)|(apply ob0_;first|exact obc_|(exact of_decide_eq_true rfl))|(apply And.intro<;>(intro h;have hc:=h;(try exact nc1_ hc);(try exact nc2_ hc);try simp only [bs]at h))|(intro h;(try (unfold und at h;conv at h=>whnf));try simp only [bs]at h)|(apply wr0_;exact wrc_)|(apply wg0_;exact wgc_))
  all_goals (conv=>whnf)
  have hr2:0≤r'∧r'<((List.length (List.replicate (α:=TabT 0) n (-1:Int)):Nat):Int):=by rw [@List.length_replicate (TabT 0) n (-1:Int)];exact⟨hr0,hr1⟩
  have hd0:(decide ((0:Int)≤r')&&decide (r'<(n:Int)))=true:=by rw [decide_eq_true hr0,decide_eq_true hr1];rfl
  refine Or.inr (Or.inl ⟨2,?_⟩)
  repeat' (refine bc_ fun g_=>?_;(conv at g_=>(arg 1;whnf));refine g_ ?_;clear g_;first|(intro bq;cases bq;rotate_left;(focus (intro hbq;exact absurd (hbq rfl) (by omega)));intro _)|((fail_if_success (apply cH_));(fail_if_success (apply uR_));apply Or.inl)|(apply rn_;exact rm_;exact me_)|(apply mt_;exact me_)|(apply ob0_;first|(exact hr2)|exact obc_|(exact of_decide_eq_true rfl))|(apply And.intro<;>(intro h;have hc:=h;(try exact nc1_ hc);(try exact nc2_ hc);(try exact nc3_ hc);(try exact nc4_ hc);try simp only [bs]at h))|(intro h;(try (unfold und at h;conv at h=>whnf));try simp only [bs]at h)|(apply wr0_;exact wrc_)|(apply wg0_;exact wgc_))
  all_goals (conv=>whnf)
  have hxo:NxOk (nextS n arcs) n:=by
    have h:=next_ok hgo;rw [Int.toNat_natCast]at h;exact h
  have hS1:search1 n arcs r'=(seS (nextS n arcs) (seB n arcs r') (n+1)).1:=by unfold search1;rw [Int.toNat_natCast]
  have hSB:seB n arcs r'=((List.replicate n (-1:Int)).set r'.toNat r',[r']):=by unfold seB;rw [Int.toNat_natCast]
  rw [hS1];generalize hnx:nextS n arcs=nx at hxo;obtain⟨hB1,hB2⟩:=s0_ok (n:=n) (r:=r') ⟨hr0,hr1⟩;have hB1':SOk n (seB n arcs r').1 (seB n arcs r').2:=by rw [hSB];exact hB1
  have hB2':neg (seB n arcs r').1+(seB n arcs r').2.length≤n:=by rw [hSB];exact hB2
  generalize seB n arcs r'=S0 at hSB hB1' hB2';refine Or.inr (Or.inr ⟨[(9,3,0)],[9,13],[],[1],[7,12],[6],?_⟩);conv=>whnf
  refine⟨fun(s:Unit×Int×Unit) (t:List (TabT 0)×(List (TabT 0)×Unit))=>∃ i:Nat,s.2.1=i∧i≤List.length (α:=TabT 0) t.1∧(t.2.1,t.1)=seS nx S0 i,fun(s:Unit×Int×Unit) _=>(n+1-s.2.1).toNat,?_⟩
  conv=>whnf
  refine Ini.mk ⟨0,rfl,Nat.zero_le _,hSB.symm⟩ me_ ?_;rintro⟨_,(i:Int),_⟩ ⟨(w:List (TabT 0)),(b:List (TabT 0)),_⟩ ⟨i,hi1,hi2,hS⟩;replace hi1:_=(i:Int):=hi1;subst hi1;replace hS:(b,w)=seS nx S0 i:=hS;replace hi2:i≤List.length (α:=TabT 0) w:=hi2;refine gK fun K hK=>?_
  obtain⟨o1,o2⟩:=seS_ok hxo hB1' hB2' i;rw [← hS]at o1 o2;replace o1:SOk n ((b,w):List Int×List Int).1 ((b,w):List Int×List Int).2:=o1;replace o2:neg ((b,w):List Int×List Int).1+((b,w):List Int×List Int).2.length≤n:=o2;have hbl:List.length (α:=TabT 0) b=n:=o1.lb;have hwl:List.length (α:=TabT 0) w≤n:=Nat.le_trans (Nat.le_add_left _ _) o2;have hnl:List.length (α:=TabT 12) nx=n:=hxo.len
  by_cases hil:i<List.length (α:=TabT 0) w
  ·have hd1:decide ((i:Int)<(List.length (α:=TabT 0) w:Nat))=true:=decide_eq_true (by omega)
   have hwi:0≤gi w i∧gi w i<n:=o1.wr _ (gi_mem (l:=w) (k:=(i:Int)) (by exact hil))
   have p1:0≤gi w i∧gi w i<(List.length (α:=TabT 12) nx:Nat):=by omega
   repeat' ((try refine gKe (by assumption) ?_);refine bc_ fun g_=>?_;(conv at g_=>(arg 1;whnf));refine g_ ?_;clear g_;first|(intro bq;cases bq;rotate_left;(focus (intro hbq;exact absurd (hbq rfl) (by omega)));intro _)|((fail_if_success (apply cH_));(fail_if_success (apply uR_));apply Or.inl)|(apply rn_;exact rm_;exact me_)|(apply mt_;exact me_)|(apply ob0_;first|(exact p1)|exact obc_|(exact of_decide_eq_true rfl))|(apply And.intro<;>(intro h;have hc:=h;(try exact nc1_ hc);(try exact nc2_ hc);(try exact nc3_ hc);(try exact nc4_ hc);try simp only [bs]at h))|(intro h;(try (unfold und at h;conv at h=>whnf));try simp only [bs]at h)|(apply wr0_;exact wrc_)|(apply wg0_;exact wgc_)|refine gKe (by assumption) ?_)
   all_goals ((try refine gKe (by assumption) ?_);(conv=>whnf))
   refine Or.inr (Or.inr ⟨[(9,3,0)],[9,63],[],[1],[7,12,13,61,62],[7],?_⟩);conv=>whnf
   refine⟨fun(s:Unit×Int×Unit) (t:List (TabT 0)×(List (TabT 0)×Unit))=>∃ j:Nat,s.2.1=j∧j≤List.length (α:=TabT 0) (rowA nx (gi w i).toNat)∧(t.2.1,t.1)=seR i (rowA nx (gi w i).toNat) (b,w) j,fun(s:Unit×Int×Unit) _=>((List.length (α:=TabT 0) (rowA nx (gi w i).toNat):Nat)-s.2.1).toNat,?_⟩
   conv=>whnf
   refine Ini.mk ⟨0,rfl,Nat.zero_le _,rfl⟩ me_ ?_;rintro⟨_,(j:Int),_⟩ ⟨(w2:List (TabT 0)),(b2:List (TabT 0)),_⟩ ⟨j,hj1,hj2,hS2⟩;replace hj1:_=(j:Int):=hj1;subst hj1;replace hS2:((b2,w2):List Int×List Int)=seR i (rowA nx (gi w i).toNat) ((b,w):List Int×List Int) j:=hS2;replace hj2:j≤List.length (α:=TabT 0) (rowA nx (gi w i).toNat):=hj2;refine gK fun K2 hK2=>?_
   obtain⟨e1,e2,e3,e4⟩:=seR_ok o1 o2 (by exact hil) (hxo.row (gi w i).toNat) j (by exact hj2)
   rw [← hS2]at e1 e2 e3;have hb2:List.length (α:=TabT 0) b2=n:=e1.lb;have hw2:List.length (α:=TabT 0) w2≤n:=Nat.le_trans (Nat.le_add_left _ _) e2;have hi2:i<List.length (α:=TabT 0) w2:=e3
   by_cases hjl:j<List.length (α:=TabT 0) (rowA nx (gi w i).toNat)
   ·have hd2:decide ((j:Int)<(List.length (α:=TabT 0) (rowA nx (gi w i).toNat):Nat))=true:=decide_eq_true (by omega)
    have hrj:0≤gi (rowA nx (gi w i).toNat) j∧gi (rowA nx (gi w i).toNat) j<n:=hxo.row _ _ (gi_mem (l:=rowA nx (gi w i).toNat) (k:=(j:Int)) (by exact hjl))
    have p2:0≤gi (rowA nx (gi w i).toNat) j∧gi (rowA nx (gi w i).toNat) j<(List.length (α:=TabT 0) b2:Nat):=by omega
    have p3:(List.length (α:=TabT 0) w2+1)*8≤140737488355328:=by omega
    have pm:((List.length (α:=TabT 0) (rowA nx (gi w i).toNat):Nat)-((j:Int)+1)).toNat<((List.length (α:=TabT 0) (rowA nx (gi w i).toNat):Nat)-(j:Int)).toNat:=by omega
    repeat' ((try refine gKe (by assumption) ?_);refine bc_ fun g_=>?_;(conv at g_=>(arg 1;whnf));refine g_ ?_;clear g_;first|(intro bq;cases bq;rotate_left;(focus (intro hbq;exact absurd (hbq rfl) (by omega)));intro _)|((fail_if_success (fail_if_success (apply Rnd.mk)));refine Rnd.mk ?_ (pm) me_)|((fail_if_success (apply cH_));(fail_if_success (apply uR_));apply Or.inl)|(apply rn_;exact rm_;exact me_)|(apply mt_;exact me_)|(apply ob0_;first|(exact p2)|(exact p3)|exact obc_|(exact of_decide_eq_true rfl))|(apply And.intro<;>(intro h;have hc:=h;(try exact nc1_ hc);(try exact nc2_ hc);(try exact nc3_ hc);(try exact nc4_ hc);try simp only [bs]at h))|(intro h;(try (unfold und at h;conv at h=>whnf));try simp only [bs]at h)|(apply wr0_;exact wrc_)|(apply wg0_;exact wgc_)|refine gKe (by assumption) ?_)
    all_goals ((try refine gKe (by assumption) ?_);(conv=>whnf))
    ·refine⟨j+1,rfl,hjl,?_⟩;show _=seI i (rowA nx (gi w i).toNat) (seR i (rowA nx (gi w i).toNat) ((b,w):List Int×List Int) j) j;rw [← hS2];exact(if_pos (by assumption)).symm
    ·refine⟨j+1,rfl,hjl,?_⟩;show _=seI i (rowA nx (gi w i).toNat) (seR i (rowA nx (gi w i).toNat) ((b,w):List Int×List Int) j) j;rw [← hS2];exact(if_neg (by assumption)).symm
   ·have hd2:decide ((j:Int)<(List.length (α:=TabT 0) (rowA nx (gi w i).toNat):Nat))=false:=decide_eq_false (by omega)
    have ej:j=(rowA nx (gi w i).toNat).length:=Nat.le_antisymm hj2 (Nat.le_of_not_lt hjl);rw [ej]at hS2
    have t1:(b2,w2)=seS nx S0 (i+1):=by
      show _=seO nx (seS nx S0 i) i;rw [← hS];exact hS2.trans (if_pos (by exact hil)).symm
    have pm:((n:Int)+1-((i:Int)+1)).toNat<((n:Int)+1-(i:Int)).toNat:=by omega
    repeat' ((try refine gKe (by assumption) ?_);refine bc_ fun g_=>?_;(conv at g_=>(arg 1;whnf));refine g_ ?_;clear g_;first|(intro bq;cases bq;rotate_left;(focus (intro hbq;exact absurd (hbq rfl) (by omega)));intro _)|((fail_if_success (fail_if_success (apply Rnd.mk)));refine Rnd.mk ?_ (pm) me_)|((fail_if_success (apply cH_));(fail_if_success (apply uR_));apply Or.inl)|(apply rn_;exact rm_;exact me_)|(apply mt_;exact me_)|(apply ob0_;first|exact obc_|(exact of_decide_eq_true rfl))|(apply And.intro<;>(intro h;have hc:=h;(try exact nc1_ hc);(try exact nc2_ hc);(try exact nc3_ hc);(try exact nc4_ hc);try simp only [bs]at h))|(intro h;(try (unfold und at h;conv at h=>whnf));try simp only [bs]at h)|(apply wr0_;exact wrc_)|(apply wg0_;exact wgc_)|refine gKe (by assumption) ?_)
    all_goals ((try refine gKe (by assumption) ?_);(conv=>whnf))
    exact⟨i+1,rfl,hi2,t1⟩
  have hd1:decide ((i:Int)<(List.length (α:=TabT 0) w:Nat))=false:=decide_eq_false (by omega)
  repeat' ((try refine gKe (by assumption) ?_);refine bc_ fun g_=>?_;(conv at g_=>(arg 1;whnf));refine g_ ?_;clear g_;first|(intro bq;cases bq;rotate_left;(focus (intro hbq;exact absurd (hbq rfl) (by omega)));intro _)|((fail_if_success (apply cH_));(fail_if_success (apply uR_));apply Or.inl)|(apply rn_;exact rm_;exact me_)|(apply mt_;exact me_)|(apply ob0_;first|exact obc_|(exact of_decide_eq_true rfl))|(apply And.intro<;>(intro h;have hc:=h;(try exact nc1_ hc);(try exact nc2_ hc);(try exact nc3_ hc);(try exact nc4_ hc);try simp only [bs]at h))|(intro h;(try (unfold und at h;conv at h=>whnf));try simp only [bs]at h)|(apply wr0_;exact wrc_)|(apply wg0_;exact wgc_)|refine gKe (by assumption) ?_)
  all_goals ((try refine gKe (by assumption) ?_);(conv=>whnf))
  have t2:b=(seS nx S0 (n+1)).1:=by
    have hi3:i≤n:=Nat.le_trans hi2 hwl;have h:=seS_stop (out:=nx) (s:=S0) (i:=i) (by rw [← hS];exact hil) (n+1-i)
    rw [show i+(n+1-i)=n+1 by omega]at h
    rw [h,← hS]
  exact⟨Or.inl rfl,eqL_of t2⟩
 ·trivial
noncomputable def F_AI:Fact E0:=⟨122,a_Bx,by unfold FnOK;kernel_rfl,o_DL⟩
end Go.SX
namespace Go.SX
open Go.XK Go.RowKit
structure RevI (l t:List Int) (i:Nat):Prop where
 len:t.length=l.length
 at_:∀ k,k<l.length→t.getD k 0=if k<i∨l.length≤k+i then l.getD (l.length-1-k) 0 else l.getD k 0
theorem rev0 (l:List Int):RevI l l 0:=⟨rfl,fun k hk=>by rw [if_neg (by omega)]⟩
theorem getD_set {l:List Int} {a k:Nat} {x:Int}:(l.set a x).getD k 0=if a=k∧a<l.length then x else l.getD k 0:=by
 rw [List.getD_eq_getElem?_getD,List.getD_eq_getElem?_getD,List.getElem?_set]
 by_cases e:a=k
 ·by_cases h:a<l.length
  ·rw [if_pos e,if_pos h,if_pos ⟨e,h⟩];rfl
  ·rw [if_pos e,if_neg h,if_neg (fun q=>h q.2),← e,List.getElem?_eq_none (by omega)]
 ·rw [if_neg e,if_neg (fun q=>e q.1)]
theorem rev_step {l t:List Int} {i j:Nat} (h:RevI l t i) (hj:i+j+1=l.length) (hij:i<j):RevI l ((t.set i (t.getD j 0)).set j (t.getD i 0)) (i+1):=by
 refine⟨by rw [List.length_set,List.length_set];exact h.len,fun k hk=>?_⟩
 have hl:=h.len;have hi:=h.at_ i (by omega)
 have hjj:=h.at_ j (by omega)
 rw [if_neg (by omega)]at hi hjj
 rw [getD_set,getD_set,List.length_set]
 by_cases e1:j=k
 ·subst e1;rw [if_pos ⟨rfl,by omega⟩,if_pos (by omega),hi,show l.length-1-j=i by omega]
 ·rw [if_neg (fun q=>e1 q.1)]
  by_cases e2:i=k
  ·subst e2;rw [if_pos ⟨rfl,by omega⟩,if_pos (by omega),hjj,show l.length-1-i=j by omega]
  ·rw [if_neg (fun q=>e2 q.1),h.at_ k hk]
   by_cases c:k<i∨l.length≤k+i
   ·rw [if_pos c,if_pos (by omega)]
   ·rw [if_neg c,if_neg (by omega)]
theorem rev_end {l t:List Int} {i j:Nat} (h:RevI l t i) (hj:i+j+1=l.length∨(l.length=0)) (hij:¬ i<j):t=l.reverse:=by
 apply List.ext_getElem?;intro k;have hl:=h.len
 by_cases hk:k<l.length
 ·have e:=h.at_ k hk
  have e2:t.getD k 0=l.getD (l.length-1-k) 0:=by
    rw [e];split
    ·rfl
    ·rw [show l.length-1-k=k by omega]
  rw [List.getD_eq_getElem?_getD,List.getD_eq_getElem?_getD,List.getElem?_eq_getElem (by omega),List.getElem?_eq_getElem (by omega)]at e2
  rw [List.getElem?_reverse hk,List.getElem?_eq_getElem (by omega),List.getElem?_eq_getElem (by omega)]
  exact congrArg some e2
 ·rw [List.getElem?_eq_none (by omega),List.getElem?_eq_none (by rw [List.length_reverse];omega)]
end Go.SX
namespace Go.SX
open Go.XK Go.RowKit
set_option maxHeartbeats 4000000 in
theorem hc_rev {z:Option Bool} {l:List (TabT 0)}:HC E0 147 1 [.osl 0] [(0,.arr 3 z 0 l)] (fun s H n=>s=.tup []∧H=[(0,.arr 3 none 0 (List.reverse (α:=Int) l))]∧n=1):=by
 refine calls_hc (DB:=[]) (IL:=[]) (WL:=[]) (fn:=Proofs.Tryz.f147) rfl rfl rfl rfl (by unfold FnOK;kernel_rfl) (fun hk=>?_)
 simp only [know]at hk
 repeat' (refine bc_ fun g_=>?_;(conv at g_=>(arg 1;whnf));refine g_ ?_;clear g_;first|(intro bq;cases bq;rotate_left;(focus (intro hbq;exact absurd (hbq rfl) (by omega)));intro _)|((fail_if_success (apply cH_));(fail_if_success (apply uR_));apply Or.inl)|(apply rn_;exact rm_;exact me_)|(apply mt_;exact me_)|((fail_if_success (fail_if_success (apply Exists.intro)));first|(refine ⟨[1,1,1,1,1,1,1,0,1,1,1,0,1,3,1,3],[0,1,2,3,4,5,6,8,9,10,7,11,12,13,14,15],(okX_len (n:=16) rfl (by decide +kernel)),?_⟩;(conv=>whnf);(fail_if_success (apply fa_))))|(apply ob0_;first|exact obc_|(exact of_decide_eq_true rfl))|(apply And.intro<;>(intro h;have hc:=h;(try exact nc1_ hc);(try exact nc2_ hc);try simp only [bs]at h))|(intro h;(try (unfold und at h;conv at h=>whnf));try simp only [bs]at h)|(apply wr0_;exact wrc_)|(apply wg0_;exact wgc_))
 all_goals (conv=>whnf)
 refine Or.inr (Or.inr ⟨[],[2,3],[],[0],[0],[],?_⟩);conv=>whnf
 refine⟨fun(s:Int×Int×Unit) (t:List (TabT 0)×Unit)=>0≤s.1∧s.1≤(List.length (α:=TabT 0) l:Nat)∧s.1+s.2.1=(List.length (α:=TabT 0) l:Nat)-1∧s.1≤s.2.1+1∧RevI l t.1 s.1.toNat,fun(s:Int×Int×Unit) _=>((List.length (α:=TabT 0) l:Nat)-s.1).toNat,?_⟩
 conv=>whnf
 refine Ini.mk ⟨by(try dsimp only);omega,by(try dsimp only);omega,by(try dsimp only);omega,by(try dsimp only);omega,rev0 l⟩ me_ ?_
 rintro⟨(i:Int),(j:Int),_⟩ ⟨(t:List (TabT 0)),_⟩ ⟨h0,h1,h2,h2b,h3⟩
 try dsimp only at h0 h1 h2 h2b h3
 obtain⟨i,rfl⟩:=Int.eq_ofNat_of_zero_le h0;rw [Int.toNat_natCast]at h3;have hl:List.length (α:=TabT 0) t=List.length (α:=TabT 0) l:=h3.len;have oS:∀ (q:Nat) (x:TabT 0),(i:Int)<j→0≤j∧j<(List.length (α:=TabT 0) (List.set (α:=TabT 0) t q x):Nat):=fun q x hb=>⟨by omega,by rw [@List.length_set (TabT 0) t q x];omega⟩
 repeat' (refine bc_ fun g_=>?_;(conv at g_=>(arg 1;whnf));refine g_ ?_;clear g_;first|(intro bq;cases bq;rotate_left;(focus (intro hbq;exact absurd (hbq rfl) (by omega)));intro _)|((fail_if_success (apply cH_));(fail_if_success (apply uR_));apply Or.inl)|(apply rn_;exact rm_;exact me_)|(apply mt_;exact me_)|((fail_if_success (fail_if_success (apply Exists.intro)));first|(refine ⟨[1,1,1,1,1,1,1,0,1,1,1,0,1,3,1,3],[0,1,2,3,4,5,6,8,9,10,7,11,12,13,14,15],(okX_len (n:=16) rfl (by decide +kernel)),?_⟩;(conv=>whnf);(fail_if_success (apply fa_))))|(apply ob0_;first|(exact oS _ _ (by assumption))|exact obc_|(exact of_decide_eq_true rfl))|(apply And.intro<;>(intro h;have hc:=h;(try exact nc1_ hc);(try exact nc2_ hc);try simp only [bs]at h))|(intro h;(try (unfold und at h;conv at h=>whnf));try simp only [bs]at h)|(apply wr0_;exact wrc_)|(apply wg0_;exact wgc_))
 all_goals (conv=>whnf)
 ·refine⟨by(try dsimp only);omega,by(try dsimp only);omega,by(try dsimp only);omega,by(try dsimp only);omega,?_⟩
  have e:=rev_step (j:=j.toNat) h3 (by show i+j.toNat+1=List.length (α:=TabT 0) l;omega) (by omega)
  exact e
 ·have e:=rev_end (j:=j.toNat) h3 (by show i+j.toNat+1=List.length (α:=TabT 0) l∨List.length (α:=TabT 0) l=0;omega) (by omega)
  refine⟨[],[],_,_,[],⟨rfl,rfl,rfl⟩,?_⟩
  conv=>whnf
  refine bc_ fun g_=>?_;(conv at g_=>(arg 1;whnf));refine g_ ?_;clear g_;repeat' (first|((with_reducible apply And.intro)<;>(first|(with_reducible refine leS_q ?_;apply rfl)|(with_reducible refine leH_rf ?_;apply rfl)|(refine bc_ fun g_=>?_;(conv at g_=>(arg 1;whnf));refine g_ ?_;clear g_)))|(with_reducible apply trivial)|apply rfl|apply(Or.inl rfl)|apply(Or.inr rfl)|apply(Or.inr (Or.inl rfl))|apply trivial|(apply And.intro<;>(refine bc_ fun g_=>?_;(conv at g_=>(arg 1;whnf));refine g_ ?_;clear g_)))
  all_goals (first|exact eqL_of e|exact e)
end Go.SX
namespace Go.SX
open Go.XK Go.RowKit
def trI (L b w o:List Int) (v:Int):Prop:=v∈w∧w.idxOf v+o.length≤w.length∧L=o++trT b (w.idxOf v) v
theorem trI_step {n:Nat} {L b w o:List Int} {v:Int} (hS:SOk n b w) (h:trI L b w o v) (q:¬ gi b v=v):trI L b w (o++[gi b v]) (gi b v)∧w.idxOf (gi b v)<w.idxOf v:=by
 obtain⟨h0,h1,h2⟩:=h;obtain⟨g1,g2,g3⟩:=trT_go hS h0 q;refine⟨⟨g2,by rw [List.length_append];show _+(o.length+1)≤_;omega,?_⟩,g3⟩
 rw [h2,g1,List.append_assoc];rfl
theorem trI_end {L b w o:List Int} {v:Int} (h:trI L b w o v) (q:gi b v=v):L=o:=by
 rw [h.2.2,trT_end q];exact List.append_nil _
theorem trI_start {n:Nat} {b w:List Int} {to:Int} (hS:SOk n b w) (h0:to∈w) (hl:w.length≤b.length):trI (to::trT b b.length to) b w [to] to:=by
 refine⟨h0,List.idxOf_lt_length_iff.2 h0,?_⟩;rw [trT_stab hS b.length h0 (Nat.le_trans List.idxOf_le_length hl)];rfl
def trOk (b:List Int) (to:Int):Prop:=(∃ w,SOk b.length b w∧w.length≤b.length)∧0≤to∧to<b.length∧b.length≤262144
set_option maxHeartbeats 4000000 in
@[reducible] def a_By:List SV→PR
 |[.lst z 0 b,.i to]=>.ob (trOk b to) (.lst (some (isE (trackS b to))) 0 (trackS b to))
 |_=>.no
set_option maxHeartbeats 4000000 in
theorem o_DM:FOK 123 a_By:=by
 intro args m ids vs hG hm hv;unfold a_By;split
 ·rename_i z b to;intro hb;refine calls_fact (DB:=[]) (IL:=[]) (WL:=[]) (fn:=Proofs.Tryz.f123) rfl rfl rfl rfl rfl rfl (fun hk=>?_) m ids vs hG hm hv
  clear hG hm hv;simp only [know]at hk;obtain⟨⟨w,hS,hwl⟩,hq0,hq1,hq2⟩:=hb;have hq:0≤to∧to<(List.length (α:=TabT 0) b:Nat):=⟨hq0,hq1⟩;have hbl:List.length (α:=TabT 0) b≤262144:=hq2
  repeat' (refine bc_ fun g_=>?_;(conv at g_=>(arg 1;whnf));refine g_ ?_;clear g_;first|(intro bq;cases bq;rotate_left;(focus (intro hbq;exact absurd (hbq rfl) (by omega)));intro _)|((fail_if_success (apply cH_));(fail_if_success (apply uR_));apply Or.inl)|(apply rn_;exact rm_;exact me_)|(apply mt_;exact me_)|(apply ob0_;first|(exact hq)|exact obc_|(exact of_decide_eq_true rfl))|(apply And.intro<;>(intro h;have hc:=h;(try exact nc1_ hc);(try exact nc2_ hc);try simp only [bs]at h))|(intro h;(try (unfold und at h;conv at h=>whnf));try simp only [bs]at h)|(apply wr0_;exact wrc_)|(apply wg0_;exact wgc_))
  all_goals (conv=>whnf)
  ·have e:trackS b to=[]:=if_pos (by assumption)
   exact⟨Or.inr (by rw [e];rfl),e⟩
  have hb0:¬ gi b to<0:=by assumption
  have hw0:to∈w:=hS.bw to hq0 hq1 (by omega)
  have eT:trackS b to=(to::trT b (List.length (α:=Int) b) to).reverse:=if_neg hb0;have est:=trI_start hS hw0 hwl;generalize hL:to::trT b (List.length (α:=Int) b) to=L at eT est;refine Or.inr (Or.inr ⟨[(5,3,0)],[1,5],[],[],[0],[0],?_⟩);conv=>whnf
  refine⟨fun(s:Int×Unit×Unit) (t:List (TabT 0)×Unit)=>trI L b w t.1 s.1,fun(s:Int×Unit×Unit) _=>w.idxOf s.1,?_⟩
  conv=>whnf
  refine Ini.mk est me_ ?_;rintro⟨(v:Int),_,_⟩ ⟨(o:List (TabT 0)),_⟩ hI;replace hI:trI L b w o v:=hI;have hv:=hS.wr v hI.1;have h1:w.idxOf v+List.length (α:=TabT 0) o≤w.length:=hI.2.1;have hv2:0≤v∧v<(List.length (α:=TabT 0) b:Nat):=hv;have hsz:(List.length (α:=TabT 0) o+1)*8≤140737488355328:=by omega
  repeat' (refine bc_ fun g_=>?_;(conv at g_=>(arg 1;whnf));refine g_ ?_;clear g_;first|(intro bq;cases bq;rotate_left;(focus (intro hbq;exact absurd (hbq rfl) (by omega)));intro _)|((fail_if_success (apply cH_));(fail_if_success (apply uR_));apply Or.inl)|(apply rn_;exact rm_;exact me_)|(apply mt_;exact me_)|(apply ob0_;first|(exact hv2)|(exact hsz)|exact obc_|(exact of_decide_eq_true rfl))|(apply And.intro<;>(intro h;have hc:=h;(try exact nc1_ hc);(try exact nc2_ hc);try simp only [bs]at h))|(intro h;(try (unfold und at h;conv at h=>whnf));try simp only [bs]at h)|(apply wr0_;exact wrc_)|(apply wg0_;exact wgc_))
  all_goals (conv=>whnf)
  ·obtain⟨g1,g2⟩:=trI_step hS hI (by assumption)
   exact Rnd.mk g1 g2 me_
  have hoe:L=o:=trI_end hI (by assumption)
  have hLp:0<List.length (α:=Int) L:=by rw [← hL];exact Nat.succ_pos _
  subst hoe
  repeat' (refine bc_ fun g_=>?_;(conv at g_=>(arg 1;whnf));refine g_ ?_;clear g_;first|(intro bq;cases bq;rotate_left;(focus (intro hbq;exact absurd (hbq rfl) (by omega)));intro _)|((fail_if_success (fail_if_success (apply Or.inl)));refine Or.inl ⟨_,_,_,_,[1],hc_rev , rfl,rfl,rfl,rfl,rfl,(And.intro rfl trivial),?_⟩;(rintro _ _ _ ⟨rfl,rfl,rfl⟩;refine And.intro rfl (And.intro rfl ?_)))|((fail_if_success (apply cH_));(fail_if_success (apply uR_));apply Or.inl)|(apply rn_;exact rm_;exact me_)|(apply mt_;exact me_)|(apply ob0_;first|exact obc_|(exact of_decide_eq_true rfl))|(apply And.intro<;>(intro h;have hc:=h;(try exact nc1_ hc);(try exact nc2_ hc);try simp only [bs]at h))|(intro h;(try (unfold und at h;conv at h=>whnf));try simp only [bs]at h)|(apply wr0_;exact wrc_)|(apply wg0_;exact wgc_))
  all_goals (conv=>whnf)
  refine And.intro (Or.inr (Or.inr ⟨?_,?_⟩)) (eqL_of eT.symm)
  ·rw [eT]
   cases hc:List.reverse L with
   |nil=>rw [List.reverse_eq_nil_iff]at hc;rw [hc]at hLp;cases hLp
   |cons x r=>rfl
  ·show 0<List.length (List.reverse (α:=Int) L);rw [List.length_reverse];exact hLp
 ·trivial
noncomputable def F_AJ:Fact E0:=Fact.co [.lst none 0 [],.un] ⟨123,a_By,by unfold FnOK;kernel_rfl,o_DM⟩
end Go.SX
namespace Go.SX
open Go.XK Go.RowKit
def cmpL:List Int→List Int→Int
 |[],[]=>0
 |[],_::_=>-1
 |_::_,[]=>1
 |x::a,y::b=>if cmpI x y=0 then cmpL a b else cmpI x y
theorem cmpL_at {a b:List Int} {k:Nat} (ha:k<a.length) (hb:k<b.length):cmpL (a.drop k) (b.drop k)=if cmpI (gi a k) (gi b k)=0 then cmpL (a.drop (k+1)) (b.drop (k+1))else cmpI (gi a k) (gi b k):=by
 have ea:gi a k=a[k]:=by unfold gi;rw [Int.toNat_natCast,List.getD_eq_getElem?_getD,List.getElem?_eq_getElem ha];rfl
 have eb:gi b k=b[k]:=by unfold gi;rw [Int.toNat_natCast,List.getD_eq_getElem?_getD,List.getElem?_eq_getElem hb];rfl
 rw [List.drop_eq_getElem_cons ha,List.drop_eq_getElem_cons hb,ea,eb];rfl
theorem cmpL_r {a b:List Int} {k:Nat} (ha:k<a.length) (hb:b.length≤k):cmpL (a.drop k) (b.drop k)=1:=by
 rw [List.drop_eq_getElem_cons ha,List.drop_of_length_le hb];rfl
theorem cmpL_e {a b:List Int} {k:Nat} (ha:a.length=k) (hb:k≤b.length):cmpL (a.drop k) (b.drop k)=if a.length<b.length then -1 else 0:=by
 rw [List.drop_of_length_le (Nat.le_of_eq ha)];split
 ·rename_i h;rw [List.drop_eq_getElem_cons (by omega)]
  rfl
 ·rw [List.drop_of_length_le (by omega)]
  rfl
set_option maxHeartbeats 4000000 in
@[reducible] def a_DA:List SV→PR
 |[.lst z 0 a,.lst y 0 b]=>.ok (.i (cmpL a b))
 |_=>.no
set_option maxHeartbeats 4000000 in
theorem o_EO:FOK 124 a_DA:=by
 intro args m ids vs hG hm hv;unfold a_DA;split
 ·rename_i z a y b;refine calls_fact (DB:=[F_AA]) (IL:=[]) (WL:=[]) (fn:=Proofs.Tryz.f124) rfl rfl rfl rfl rfl rfl (fun hk=>?_) m ids vs hG hm hv
  clear hG hm hv;simp only [know]at hk
  repeat' (refine bc_ fun g_=>?_;(conv at g_=>(arg 1;whnf));refine g_ ?_;clear g_;first|((fail_if_success (apply cH_));(fail_if_success (apply uR_));apply Or.inl)|(apply rn_;exact rm_;exact me_)|(apply mt_;exact me_)|(apply ob0_;first|exact obc_)|(apply And.intro<;>(intro h;have hc:=h;try simp only [bs]at h))|(intro h;(try (unfold und at h;conv at h=>whnf));try simp only [bs]at h)|(apply wr0_;exact wrc_)|(apply wg0_;exact wgc_))
  all_goals (conv=>whnf)
  refine Or.inr (Or.inr ⟨[],[11],[],[],[0,1,9,10],[],?_⟩);conv=>whnf
  refine⟨fun(s:Int×Unit) (_:Unit)=>0≤s.1∧s.1≤(List.length (α:=TabT 0) a:Nat)∧s.1≤(List.length (α:=TabT 0) b:Nat)∧cmpL a b=cmpL (List.drop (α:=Int) s.1.toNat a) (List.drop (α:=Int) s.1.toNat b),fun(s:Int×Unit) _=>((List.length (α:=TabT 0) a:Nat)-s.1).toNat,?_⟩
  conv=>whnf
  refine Ini.mk ⟨by(try dsimp only);omega,by(try dsimp only);omega,by(try dsimp only);omega,rfl⟩ me_ ?_
  rintro⟨(k:Int),_⟩ _ ⟨h0,h1,h2,h3⟩
  try dsimp only at h0 h1 h2 h3
  obtain⟨k,rfl⟩:=Int.eq_ofNat_of_zero_le h0;rw [Int.toNat_natCast]at h3
  repeat' (refine bc_ fun g_=>?_;(conv at g_=>(arg 1;whnf));refine g_ ?_;clear g_;first|((fail_if_success (apply cH_));(fail_if_success (apply uR_));apply Or.inl)|(apply rn_;exact rm_;exact me_)|(apply mt_;exact me_)|(apply ob0_;first|exact obc_)|(apply And.intro<;>(intro h;have hc:=h;try simp only [bs]at h))|(intro h;(try (unfold und at h;conv at h=>whnf));try simp only [bs]at h)|(apply wr0_;exact wrc_)|(apply wg0_;exact wgc_))
  all_goals (conv=>whnf)
  ·rw [h3];exact(cmpL_r (a:=a) (b:=b) (by show k<List.length (α:=TabT 0) a;omega) (by show List.length (α:=TabT 0) b≤k;omega)).symm
  ·rw [h3,cmpL_at (a:=a) (b:=b) (by show k<List.length (α:=TabT 0) a;omega) (by show k<List.length (α:=TabT 0) b;omega),if_neg (by assumption)]
   rfl
  ·refine⟨by(try dsimp only);omega,by(try dsimp only);omega,by(try dsimp only);omega,?_⟩
   show _=cmpL (List.drop (k+1) a) (List.drop (k+1) b);rw [h3,cmpL_at (a:=a) (b:=b) (by show k<List.length (α:=TabT 0) a;omega) (by show k<List.length (α:=TabT 0) b;omega),if_pos (by assumption)]
  ·rw [h3,cmpL_e (a:=a) (b:=b) (by show List.length (α:=TabT 0) a=k;omega) (by show k≤List.length (α:=TabT 0) b;omega),if_pos (by show List.length (α:=TabT 0) a<List.length (α:=TabT 0) b;omega)]
  ·rw [h3,cmpL_e (a:=a) (b:=b) (by show List.length (α:=TabT 0) a=k;omega) (by show k≤List.length (α:=TabT 0) b;omega),if_neg (by show ¬ List.length (α:=TabT 0) a<List.length (α:=TabT 0) b;omega)]
 ·trivial
noncomputable def F_BO:Fact E0:=Fact.co [.lst none 0 [],.lst none 0 []] ⟨124,a_DA,by unfold FnOK;kernel_rfl,o_EO⟩
end Go.SX
namespace Go.SX
open Go.XK Go.RowKit
theorem lsS_mem {n P:Nat} {part:List Int} {parts U:Rows} (hp:POk n part parts) (hP:parts.length=P) (hu:∀ q:Nat,∀ p∈rowA U q,1≤p∧p≤P):∀ (m:Nat) {s:TS} {d:Nat},LOk P parts d (s.h,s.W)→(∀ r∈s.out,r∈parts)→∀ r∈(lsS part parts U m s).out,r∈parts
 |0,_,_,_,ho=>ho
 |m+1,s,d,h,ho=>by
   rw [lsS];split
   ·rename_i h0;refine lsS_mem hp hP hu m (lsO_ok hp hP hu h h0).1 fun r hr=>?_
    have hr:r∈s.out++[popX s.h]:=hr;rcases List.mem_append.1 hr with hr|hr
    ·exact ho r hr
    ·rw [List.mem_singleton.1 hr];exact(pop_ok2 h h0).2.2
   ·exact ho
theorem partsOf_mem {n:Nat} {nx:Rows} (hx:NxOk nx n) (ht:tot nx≤4611686018427387904):∀ r∈partsOf n nx,r≠[]∧∀ w∈r,0≤w∧w<n:=by
 have hP:=vis_all hx;intro r hr;unfold partsOf at hr;dsimp only at hr;refine hP.pn r ?_;have hW:=wuS_tot hx hP rfl n (Nat.le_refl n);have htt:tot (nx.take n)≤tot nx:=tot_take _ _;exact lsS_mem hP rfl hW.u _ (d:=0) ⟨hW.lw,fun p=>by have:=hW.w p;show -((0:Nat):Int)≤gi (wuS _ _ _ _).1 p;omega,fun p=>by have:=hW.w p;show gi (wuS _ _ _ _).1 p≤_;omega,rd_mem _ _ _ (Nat.le_refl _)⟩ (fun r hr=>absurd hr (List.not_mem_nil)) r hr
def plA (parts:Rows) (n:Int):Nat→Int
 |0=>n
 |k+1=>if(1:Int)<((rowA parts k).length:Nat)then min (plA parts n k) (gi (rowA parts k) 0)else plA parts n k
theorem plA_s1 {parts:Rows} {n:Int} {k:Nat} (h:(1:Int)<((rowA parts k).length:Nat)):plA parts n (k+1)=min (plA parts n k) (gi (rowA parts k) 0):=by rw [plA,if_pos h]
theorem plA_s0 {parts:Rows} {n:Int} {k:Nat} (h:¬ (1:Int)<((rowA parts k).length:Nat)):plA parts n (k+1)=plA parts n k:=by rw [plA,if_neg h]
def alA (arcs:List TArc) (l0:Int):Nat→Int
 |0=>l0
 |k+1=>if(arcA arcs k).From=(arcA arcs k).To then min (alA arcs l0 k) (arcA arcs k).From else alA arcs l0 k
theorem alA_s1 {arcs:List TArc} {l0:Int} {k:Nat} (h:(arcA arcs k).From=(arcA arcs k).To):alA arcs l0 (k+1)=min (alA arcs l0 k) (arcA arcs k).From:=by rw [alA,if_pos h]
theorem alA_s0 {arcs:List TArc} {l0:Int} {k:Nat} (h:¬ (arcA arcs k).From=(arcA arcs k).To):alA arcs l0 (k+1)=alA arcs l0 k:=by rw [alA,if_neg h]
def bsC (way best:List Int):Bool:=!isE way&&(isE best||decide ((way.length:Int)<best.length)||decide ((way.length:Int)=best.length)&&decide (cmpL way best<0))
def beB (b:List Int) (least:Int) (arcs:List TArc):Nat→List Int
 |0=>[]
 |k+1=>if(arcA arcs k).To=least then(if bsC (trackS b (arcA arcs k).From) (beB b least arcs k)=true then trackS b (arcA arcs k).From else beB b least arcs k)else beB b least arcs k
theorem beB_0 {b:List Int} {least:Int} {arcs:List TArc} {k:Nat} (h:¬ (arcA arcs k).To=least):beB b least arcs (k+1)=beB b least arcs k:=by rw [beB,if_neg h]
theorem beB_1 {b:List Int} {least:Int} {arcs:List TArc} {k:Nat} (h:(arcA arcs k).To=least) (h2:bsC (trackS b (arcA arcs k).From) (beB b least arcs k)=true):beB b least arcs (k+1)=trackS b (arcA arcs k).From:=by rw [beB,if_pos h,if_pos h2]
theorem beB_2 {b:List Int} {least:Int} {arcs:List TArc} {k:Nat} (h:(arcA arcs k).To=least) (h2:bsC (trackS b (arcA arcs k).From) (beB b least arcs k)=false):beB b least arcs (k+1)=beB b least arcs k:=by rw [beB,if_pos h,h2];rfl
def cyc0 (n:Int) (arcs:List TArc):Int:=alA arcs (plA (partsS n arcs) n (partsS n arcs).length) arcs.length
def cycS (n:Int) (arcs:List TArc):List Int :=
 bif gRight n arcs then(if cyc0 n arcs=n then []else beB (search1 n arcs (cyc0 n arcs)) (cyc0 n arcs) arcs arcs.length)else []
theorem plA_rng {n:Nat} {parts:Rows} (h:∀ r∈parts,r≠[]∧∀ w∈r,0≤w∧w<(n:Int)):∀ k,k≤parts.length→0≤plA parts n k∧plA parts n k≤n
 |0,_=>⟨Int.natCast_nonneg _,Int.le_refl _⟩
 |k+1,hk=>by
   have ih:=plA_rng h k (by omega)
   rw [plA];split
   ·have h1:=(h _ (rowA_mem (l:=parts) (i:=k) (by omega))).2 _ (gi_mem (l:=rowA parts k) (k:=0) (by rename_i q;omega))
    omega
   ·exact ih
theorem alA_rng {n:Nat} {arcs:List TArc} {l0:Int} (h:gOk n arcs) (h0:0≤l0∧l0≤n):∀ k,k≤arcs.length→0≤alA arcs l0 k∧alA arcs l0 k≤n
 |0,_=>h0
 |k+1,hk=>by
   have ih:=alA_rng h h0 k (by omega)
   rw [alA];split
   ·obtain⟨a1,a2,_,_⟩:=h.2.2 k (by omega)
    omega
   ·exact ih
theorem search1_len {n:Nat} {arcs:List TArc} {r:Int} (h:gOk n arcs) (hr:rOK r n):∃ w,SOk n (search1 n arcs r) w∧w.length≤n:=by
 have hx:NxOk (nextS n arcs) n:=by
   have:=next_ok h;rw [Int.toNat_natCast]at this;exact this
 obtain⟨h1,h2⟩:=s0_ok (n:=n) (r:=r) hr;have h1':SOk n (seB n arcs r).1 (seB n arcs r).2:=by unfold seB;rw [Int.toNat_natCast];exact h1
 have h2':neg (seB n arcs r).1+(seB n arcs r).2.length≤n:=by unfold seB;rw [Int.toNat_natCast];exact h2
 obtain⟨g1,g2⟩:=seS_ok hx h1' h2' (n+1);unfold search1;rw [Int.toNat_natCast];exact⟨_,g1,by omega⟩
theorem search1_ok {n:Nat} {arcs:List TArc} {r to:Int} (h:gOk n arcs) (hr:rOK r n) (ht:0≤to∧to<n):trOk (search1 n arcs r) to:=by
 obtain⟨w,h1,h2⟩:=search1_len h hr;have hl:=h1.lb;have:=h.2.1;refine⟨⟨w,by rw [hl];exact h1,by rw [hl];exact h2⟩,ht.1,by omega,by omega⟩
end Go.SX
namespace Go.SX
open Go.XK Go.RowKit
set_option maxHeartbeats 60000000 in
theorem hc_find {zn z1 z2 z3 z4 z5:Option Bool} {nx:List (TabT 12)} {index low stack part:List (TabT 0)} {parts:List (TabT 12)} {count root:Int} {n:Nat} (hn:n≤262144) (hx:NxOk nx n) (hf:FOk nx n index ⟨index,low,stack,part,parts,count⟩) (hst:stack=[]) (hpl:List.length (α:=List Int) parts≤vis index) (hr:0≤root∧root<n) (h0:gi index root=0):HC E0 139 7 [.loc 0 0,.i root,.loc 6 0] [(0,.row 198 [.lst zn 12 nx,.osl 1,.osl 2,.osl 3,.osl 4,.osl 5]),(1,.arr 3 z1 0 index),(2,.arr 3 z2 0 low),(3,.arr 3 z3 0 stack),(4,.arr 3 z4 0 part),(5,.arr 25 z5 12 parts),(6,.row 3 [.i count])] (fun s H n=>s=.tup []∧H=[(0,.row 198 [.lst none 12 nx,.osl 7,.osl 8,.osl 9,.osl 10,.osl 11]),(7,.arr 3 none 0 (findS nx ⟨index,low,stack,part,parts,count⟩ root).index),(8,.arr 3 none 0 (findS nx ⟨index,low,stack,part,parts,count⟩ root).low),(9,.arr 3 none 0 (findS nx ⟨index,low,stack,part,parts,count⟩ root).stack),(10,.arr 3 none 0 (findS nx ⟨index,low,stack,part,parts,count⟩ root).part),(11,.arr 25 none 12 (findS nx ⟨index,low,stack,part,parts,count⟩ root).parts),(6,.row 3 [.i (findS nx ⟨index,low,stack,part,parts,count⟩ root).count])]∧n=12):=by
 generalize hRS:findS nx ⟨index,low,stack,part,parts,count⟩ root=RS;subst hst;have hci:count=(vis index:Nat):=hf.cnt;have hvl:vis index≤n:=Nat.le_trans (vis_le index) (Nat.le_of_eq hf.li);have hli:List.length (α:=TabT 0) index=n:=hf.li;have hll:List.length (α:=TabT 0) low=n:=hf.ll;have hO1:0≤root∧root<(List.length (α:=TabT 0) index:Nat):=by rw [hli];exact hr
 have hO2:0≤root∧root<(List.length (α:=TabT 0) low:Nat):=by rw [hll];exact hr
 have hcb:0≤count∧count≤262144:=by omega
 refine calls_hc (DB:=[]) (IL:=[]) (WL:=[]) (fn:=Proofs.Tryz.f139) rfl rfl rfl rfl (by unfold FnOK;kernel_rfl) (fun hk=>?_)
 simp only [know]at hk
 repeat' (refine bc_ fun g_=>?_;(conv at g_=>(arg 1;whnf));refine g_ ?_;clear g_;first|(intro bq;cases bq;rotate_left;(focus (intro hbq;exact absurd (hbq rfl) (by omega)));intro _)|((fail_if_success (fail_if_success (apply Or.inl)));refine Or.inl ⟨_,_,_,_,[8,7,6,0,1,2,3,4,5],hc_enter hcb hO1 hO2 (Nat.zero_le _),rfl,rfl,rfl,rfl,rfl,(And.intro rfl (And.intro rfl (And.intro rfl (And.intro rfl (And.intro rfl (And.intro rfl (And.intro rfl (And.intro rfl (And.intro rfl trivial))))))))),?_⟩;(rintro _ _ _ ⟨rfl,rfl,rfl⟩;refine And.intro rfl (And.intro rfl ?_)))|((fail_if_success (apply cH_));(fail_if_success (apply uR_));apply Or.inl)|(apply rn_;exact rm_;exact me_)|(apply mt_;exact me_)|((fail_if_success (fail_if_success (apply Exists.intro)));first|(refine ⟨[0,1,1,0,1,1,0,0,1,1,0,1,1,0,1],[4,11,0,1,2,3,5,6,7,8,9,10,12,13,14],(okX_len (n:=15) rfl (by decide +kernel)),?_⟩;(conv=>whnf);(fail_if_success (apply fa_)))|(refine ⟨[1,1,1,0,0,1,1,0,1,1,1,0,1,0,0,1],[0,1,2,8,9,10,3,4,5,6,7,11,12,13,14,15],(okX_len (n:=16) rfl (by decide +kernel)),?_⟩;(conv=>whnf);(fail_if_success (apply fa_)))|(refine ⟨[0,1,1,0,1,1,1,0,1,0,1,1,1,0,1,0,1],[4,5,6,10,11,12,0,1,2,3,7,8,9,13,14,15,16],(okX_len (n:=17) rfl (by decide +kernel)),?_⟩;(conv=>whnf);(fail_if_success (apply fa_)))|(refine ⟨[0,1,1,0,1,0,1,1,0,1,1,0,0,1,1,0,1,1,0,1,1,3],[4,9,16,0,1,2,3,5,6,7,8,10,11,12,13,14,15,17,18,19,20,21],(okX_len (n:=22) rfl (by decide +kernel)),?_⟩;(conv=>whnf);(fail_if_success (apply fa_)))|(refine ⟨[0,1,1,0,1,1,1,0,0,1,1,0,1,1,1,0,1,0,0,1,1,0,1,1,0,1,1,3],[4,5,6,12,13,14,22,0,1,2,3,7,8,9,10,11,15,16,17,18,19,20,21,23,24,25,26,27],(okX_len (n:=28) rfl (by decide +kernel)),?_⟩;(conv=>whnf);(fail_if_success (apply fa_))))|(apply ob0_;first|exact obc_|(exact of_decide_eq_true rfl))|(apply And.intro<;>(intro h;have hc:=h;(try exact nc1_ hc);(try exact nc2_ hc);try simp only [bs]at h))|(intro h;(try (unfold und at h;conv at h=>whnf));try simp only [bs]at h)|(apply wr0_;exact wrc_)|(apply wg0_;exact wgc_))
 all_goals (conv=>whnf)
 refine Or.inr (Or.inr ⟨[(7,216,44)],[7],[],[0,6],[3,6],[1,2,4,5,9,10],?_⟩);conv=>whnf
 generalize hFN:iterF nx (muF nx (startF ⟨index,low,[],part,parts,count⟩ root)) (startF ⟨index,low,[],part,parts,count⟩ root)=FIN;refine⟨fun(s:Unit×Unit) (t:TF)=>t.2.1.1=nx∧GOk nx n index root (count+1) (gsOf t)∧FIN=iterF nx (muF nx (gsOf t)) (gsOf t),fun(s:Unit×Unit) (t:TF)=>muF nx (gsOf t),?_⟩
 conv=>whnf
 refine Ini.mk ⟨rfl,start_ok hx hf rfl hpl hr h0,hFN.symm⟩ me_ ?_;rintro⟨_,_⟩ ⟨(calls:List (TabT 44)),⟨(nx2:List (TabT 12)),_,_,_,_,_,_⟩,(ix:List (TabT 0)),(lw:List (TabT 0)),(stk:List (TabT 0)),(prt:List (TabT 0)),(prs:List (TabT 12)),⟨(cnt:Int),_⟩,_⟩ ⟨hnx,hG,hF⟩
 try dsimp only at hnx
 subst hnx;replace hG:GOk nx2 n index root (count+1) ⟨calls,⟨ix,lw,stk,prt,prs,cnt⟩⟩:=hG;replace hF:FIN=iterF nx2 (muF nx2 ⟨calls,⟨ix,lw,stk,prt,prs,cnt⟩⟩) ⟨calls,⟨ix,lw,stk,prt,prs,cnt⟩⟩:=hF;have hS:=gsafe hx hG;have hcb2:0≤cnt∧cnt≤262144:=⟨hS.c0.1,Int.le_trans hS.c0.2 (by omega)⟩
 have n1:List.length (α:=TabT 12) nx2=n:=hS.nl;have n2:List.length (α:=TabT 0) ix=n:=hS.li;have n3:List.length (α:=TabT 0) lw=n:=hS.ll;have n4:List.length (α:=TabT 0) prt=n:=hS.lp;have n5:List.length (α:=TabT 44) calls≤n:=hS.cl;have n6:List.length (α:=TabT 0) stk≤n:=hS.sl;have hp7:List.length (α:=TabT 12) prs≤262144:=Nat.le_trans hS.pl (by omega)
 have hs6:List.length (α:=TabT 0) stk≤262144:=by omega
 have n7:List.length (α:=TabT 12) prs≤n:=hS.pl;have o1:0<List.length (α:=TabT 44) calls→0≤(topC calls).v∧(topC calls).v<(List.length (α:=TabT 12) nx2:Nat):=fun h=>by rw [n1];exact hS.v h
 have o1l:0<List.length (α:=TabT 44) calls→0≤(topC calls).v∧(topC calls).v<(List.length (α:=TabT 0) lw:Nat):=fun h=>by rw [n3];exact hS.v h
 have o1i:0<List.length (α:=TabT 44) calls→0≤(topC calls).v∧(topC calls).v<(List.length (α:=TabT 0) ix:Nat):=fun h=>by rw [n2];exact hS.v h
 have o1s:∀ k x,0<List.length (α:=TabT 44) calls→0≤(topC calls).v∧(topC calls).v<(List.length (α:=TabT 0) (List.set (α:=TabT 0) lw k x):Nat):=fun k x h=>by rw [@List.length_set (TabT 0) lw k x];exact o1l h
 have o2:0<List.length (α:=TabT 44) calls→0≤(topC calls).i:=fun h=>(hS.i h).1
 have o3:0<List.length (α:=TabT 44) calls→(topC calls).i<(rowA nx2 (topC calls).v.toNat).length→0≤gi (rowA nx2 (topC calls).v.toNat) (topC calls).i∧gi (rowA nx2 (topC calls).v.toNat) (topC calls).i<(List.length (α:=TabT 0) ix:Nat):=fun h hi=>by rw [n2];exact hS.w h hi
 have o3l:0<List.length (α:=TabT 44) calls→(topC calls).i<(rowA nx2 (topC calls).v.toNat).length→0≤gi (rowA nx2 (topC calls).v.toNat) (topC calls).i∧gi (rowA nx2 (topC calls).v.toNat) (topC calls).i<(List.length (α:=TabT 0) lw:Nat):=fun h hi=>by rw [n3];exact hS.w h hi
 have o3p:0<List.length (α:=TabT 44) calls→(topC calls).i<(rowA nx2 (topC calls).v.toNat).length→0≤gi (rowA nx2 (topC calls).v.toNat) (topC calls).i∧gi (rowA nx2 (topC calls).v.toNat) (topC calls).i<(List.length (α:=TabT 0) prt:Nat):=fun h hi=>by rw [n4];exact hS.w h hi
 have o5:0<List.length (α:=TabT 44) calls→0≤((incC calls).getD ((List.length (α:=TabT 44) calls:Int)-1).toNat ⟨0,0⟩).v∧((incC calls).getD ((List.length (α:=TabT 44) calls:Int)-1).toNat ⟨0,0⟩).v<(List.length (α:=TabT 0) lw:Nat):=fun h=>by
   rw [n3];have e:=inc_topv (cs:=calls) h;exact⟨Int.le_trans (hS.v h).1 (Int.le_of_eq e.symm),Int.lt_of_le_of_lt (Int.le_of_eq e) (hS.v h).2⟩
 have o8:1<List.length (α:=TabT 44) calls→0≤(List.getD (α:=TGraphCall) calls (0+((List.length (α:=TabT 44) calls:Int)-1-0-1)).toNat ⟨0,0⟩).v∧(List.getD (α:=TGraphCall) calls (0+((List.length (α:=TabT 44) calls:Int)-1-0-1)).toNat ⟨0,0⟩).v<(List.length (α:=TabT 0) lw:Nat):=fun h=>by
   rw [n3];have e:=up_topv (cs:=calls) h;exact⟨Int.le_trans (hS.u h).1 (Int.le_of_eq e.symm),Int.lt_of_le_of_lt (Int.le_of_eq e) (hS.u h).2⟩
 repeat' (refine bc_ fun g_=>?_;(conv at g_=>(arg 1;whnf));refine g_ ?_;clear g_;first|(intro bq;cases bq;rotate_left;(focus (intro hbq;exact absurd (hbq rfl) (by omega)));intro _)|((fail_if_success (apply cH_));(fail_if_success (apply uR_));apply Or.inl)|(apply rn_;exact rm_;exact me_)|(apply mt_;exact me_)|((fail_if_success (fail_if_success (apply Exists.intro)));first|(refine ⟨[0,1,1,0,1,1,0,0,1,1,0,1,1,0,1],[4,11,0,1,2,3,5,6,7,8,9,10,12,13,14],(okX_len (n:=15) rfl (by decide +kernel)),?_⟩;(conv=>whnf);(fail_if_success (apply fa_)))|(refine ⟨[1,1,1,0,0,1,1,0,1,1,1,0,1,0,0,1],[0,1,2,8,9,10,3,4,5,6,7,11,12,13,14,15],(okX_len (n:=16) rfl (by decide +kernel)),?_⟩;(conv=>whnf);(fail_if_success (apply fa_)))|(refine ⟨[0,1,1,0,1,1,1,0,1,0,1,1,1,0,1,0,1],[4,5,6,10,11,12,0,1,2,3,7,8,9,13,14,15,16],(okX_len (n:=17) rfl (by decide +kernel)),?_⟩;(conv=>whnf);(fail_if_success (apply fa_)))|(refine ⟨[0,1,1,0,1,0,1,1,0,1,1,0,0,1,1,0,1,1,0,1,1,3],[4,9,16,0,1,2,3,5,6,7,8,10,11,12,13,14,15,17,18,19,20,21],(okX_len (n:=22) rfl (by decide +kernel)),?_⟩;(conv=>whnf);(fail_if_success (apply fa_)))|(refine ⟨[0,1,1,0,1,1,1,0,0,1,1,0,1,1,1,0,1,0,0,1,1,0,1,1,0,1,1,3],[4,5,6,12,13,14,22,0,1,2,3,7,8,9,10,11,15,16,17,18,19,20,21,23,24,25,26,27],(okX_len (n:=28) rfl (by decide +kernel)),?_⟩;(conv=>whnf);(fail_if_success (apply fa_))))|(apply ob0_;first|(exact o1 (by omega))|(exact⟨o2 (by omega),by assumption⟩)|exact obc_|(exact of_decide_eq_true rfl))|(apply And.intro<;>(intro h;have hc:=h;(try exact nc1_ hc);(try exact nc2_ hc);try simp only [bs]at h))|(intro h;(try (unfold und at h;conv at h=>whnf));try simp only [bs]at h)|(apply wr0_;exact wrc_)|(apply wg0_;exact wgc_))
 all_goals (conv=>whnf)
 ·have hc0:0<List.length (α:=TabT 44) calls:=by omega
  have hi:(topC calls).i<(rowA nx2 (topC calls).v.toNat).length:=by assumption
  have q1:=o3 hc0 hi;have q2:=o3l hc0 hi;have q3:=o3p hc0 hi;have q4:=o5 hc0;clear o1 o1l o1i o1s o2 o3 o3l o3p o5 o8
  repeat' (refine bc_ fun g_=>?_;(conv at g_=>(arg 1;whnf));refine g_ ?_;clear g_;first|(intro bq;cases bq;rotate_left;(focus (intro hbq;exact absurd (hbq rfl) (by omega)));intro _)|((fail_if_success (apply cH_));(fail_if_success (apply uR_));apply Or.inl)|(apply rn_;exact rm_;exact me_)|(apply mt_;exact me_)|((fail_if_success (fail_if_success (apply Exists.intro)));first|(refine ⟨[0,1,1,0,1,1,0,0,1,1,0,1,1,0,1],[4,11,0,1,2,3,5,6,7,8,9,10,12,13,14],(okX_len (n:=15) rfl (by decide +kernel)),?_⟩;(conv=>whnf);(fail_if_success (apply fa_)))|(refine ⟨[1,1,1,0,0,1,1,0,1,1,1,0,1,0,0,1],[0,1,2,8,9,10,3,4,5,6,7,11,12,13,14,15],(okX_len (n:=16) rfl (by decide +kernel)),?_⟩;(conv=>whnf);(fail_if_success (apply fa_)))|(refine ⟨[0,1,1,0,1,1,1,0,1,0,1,1,1,0,1,0,1],[4,5,6,10,11,12,0,1,2,3,7,8,9,13,14,15,16],(okX_len (n:=17) rfl (by decide +kernel)),?_⟩;(conv=>whnf);(fail_if_success (apply fa_)))|(refine ⟨[0,1,1,0,1,0,1,1,0,1,1,0,0,1,1,0,1,1,0,1,1,3],[4,9,16,0,1,2,3,5,6,7,8,10,11,12,13,14,15,17,18,19,20,21],(okX_len (n:=22) rfl (by decide +kernel)),?_⟩;(conv=>whnf);(fail_if_success (apply fa_)))|(refine ⟨[0,1,1,0,1,1,1,0,0,1,1,0,1,1,1,0,1,0,0,1,1,0,1,1,0,1,1,3],[4,5,6,12,13,14,22,0,1,2,3,7,8,9,10,11,15,16,17,18,19,20,21,23,24,25,26,27],(okX_len (n:=28) rfl (by decide +kernel)),?_⟩;(conv=>whnf);(fail_if_success (apply fa_))))|(apply ob0_;first|(exact q1)|(exact q4)|(exact q3)|exact obc_|(exact of_decide_eq_true rfl))|(apply And.intro<;>(intro h;have hc:=h;(try exact nc1_ hc);(try exact nc2_ hc);try simp only [bs]at h))|(intro h;(try (unfold und at h;conv at h=>whnf));try simp only [bs]at h)|(apply wr0_;exact wrc_)|(apply wg0_;exact wgc_))
  all_goals (conv=>whnf)
  ·refine Or.inl ⟨_,_,_,_,[8,7,6,0,12,13,14,15,16],hc_enter hcb2 q1 q2 hs6,rfl,rfl,rfl,rfl,rfl,(And.intro rfl (And.intro rfl (And.intro rfl (And.intro rfl (And.intro rfl (And.intro rfl (And.intro rfl (And.intro rfl (And.intro rfl trivial))))))))),?_⟩;rintro _ _ _ ⟨rfl,rfl,rfl⟩;refine And.intro rfl (And.intro rfl ?_)
   have hl5:(List.length (α:=TabT 44) (incC calls)+1)*16≤140737488355328:=by
     have e:List.length (α:=TabT 44) (incC calls)=List.length (α:=TabT 44) calls:=List.length_set ..;omega
   repeat' (refine bc_ fun g_=>?_;(conv at g_=>(arg 1;whnf));refine g_ ?_;clear g_;first|(intro bq;cases bq;rotate_left;(focus (intro hbq;exact absurd (hbq rfl) (by omega)));intro _)|((fail_if_success (apply cH_));(fail_if_success (apply uR_));apply Or.inl)|(apply rn_;exact rm_;exact me_)|(apply mt_;exact me_)|((fail_if_success (fail_if_success (apply Exists.intro)));first|(refine ⟨[0,1,1,0,1,1,0,0,1,1,0,1,1,0,1],[4,11,0,1,2,3,5,6,7,8,9,10,12,13,14],(okX_len (n:=15) rfl (by decide +kernel)),?_⟩;(conv=>whnf);(fail_if_success (apply fa_)))|(refine ⟨[1,1,1,0,0,1,1,0,1,1,1,0,1,0,0,1],[0,1,2,8,9,10,3,4,5,6,7,11,12,13,14,15],(okX_len (n:=16) rfl (by decide +kernel)),?_⟩;(conv=>whnf);(fail_if_success (apply fa_)))|(refine ⟨[0,1,1,0,1,1,1,0,1,0,1,1,1,0,1,0,1],[4,5,6,10,11,12,0,1,2,3,7,8,9,13,14,15,16],(okX_len (n:=17) rfl (by decide +kernel)),?_⟩;(conv=>whnf);(fail_if_success (apply fa_)))|(refine ⟨[0,1,1,0,1,0,1,1,0,1,1,0,0,1,1,0,1,1,0,1,1,3],[4,9,16,0,1,2,3,5,6,7,8,10,11,12,13,14,15,17,18,19,20,21],(okX_len (n:=22) rfl (by decide +kernel)),?_⟩;(conv=>whnf);(fail_if_success (apply fa_)))|(refine ⟨[0,1,1,0,1,1,1,0,0,1,1,0,1,1,1,0,1,0,0,1,1,0,1,1,0,1,1,3],[4,5,6,12,13,14,22,0,1,2,3,7,8,9,10,11,15,16,17,18,19,20,21,23,24,25,26,27],(okX_len (n:=28) rfl (by decide +kernel)),?_⟩;(conv=>whnf);(fail_if_success (apply fa_))))|(apply ob0_;first|(exact hl5)|exact obc_|(exact of_decide_eq_true rfl))|(apply And.intro<;>(intro h;have hc:=h;(try exact nc1_ hc);(try exact nc2_ hc);try simp only [bs]at h))|(intro h;(try (unfold und at h;conv at h=>whnf));try simp only [bs]at h)|(apply wr0_;exact wrc_)|(apply wg0_;exact wgc_))
   all_goals (conv=>whnf)
   have R:=rnd_ok' hx hG hF _ (step_enter hc0 hi (by assumption))
   exact Rnd.mk ⟨rfl,R.1,R.2.1⟩ R.2.2 me_
  ·have R:=rnd_ok' hx hG hF _ (step_low hc0 hi (by assumption) (by assumption) (inc_topv (cs:=calls) hc0))
   exact Rnd.mk ⟨rfl,R.1,R.2.1⟩ R.2.2 me_
  ·have R:=rnd_ok' hx hG hF _ (step_skip hc0 hi (by assumption) (by assumption))
   exact Rnd.mk ⟨rfl,R.1,R.2.1⟩ R.2.2 me_
 ·have hc1:1<List.length (α:=TabT 44) calls:=by omega
  have hc0:0<List.length (α:=TabT 44) calls:=by omega
  have hi:¬ (topC calls).i<(rowA nx2 (topC calls).v.toNat).length:=by assumption
  have q1:=o8 hc1;have q2:=o1l hc0;have q3:=fun k x=>o1s k x hc0
  have q4:=o1i hc0;have hcl1:inTk stk (topC calls).v (List.length (α:=Int) stk):=inTk_all (top_stack hG hc0);have hrg:∀ w:Int,inTk stk w (List.length (α:=Int) stk)→0≤w∧w<(List.length (α:=TabT 0) prt:Nat):=fun w hw=>by rw [n4];exact hG.sr w (List.mem_of_mem_take hw)
  have hup:=up_topv (cs:=calls) hc1;clear o1 o1l o1i o1s o2 o3 o3l o3p o5 o8
  repeat' (refine bc_ fun g_=>?_;(conv at g_=>(arg 1;whnf));refine g_ ?_;clear g_;first|(intro bq;cases bq;rotate_left;(focus (intro hbq;exact absurd (hbq rfl) (by omega)));intro _)|((fail_if_success (apply cH_));(fail_if_success (apply uR_));apply Or.inl)|(apply rn_;exact rm_;exact me_)|(apply mt_;exact me_)|((fail_if_success (fail_if_success (apply Exists.intro)));first|(refine ⟨[0,1,1,0,1,1,0,0,1,1,0,1,1,0,1],[4,11,0,1,2,3,5,6,7,8,9,10,12,13,14],(okX_len (n:=15) rfl (by decide +kernel)),?_⟩;(conv=>whnf);(fail_if_success (apply fa_)))|(refine ⟨[1,1,1,0,0,1,1,0,1,1,1,0,1,0,0,1],[0,1,2,8,9,10,3,4,5,6,7,11,12,13,14,15],(okX_len (n:=16) rfl (by decide +kernel)),?_⟩;(conv=>whnf);(fail_if_success (apply fa_)))|(refine ⟨[0,1,1,0,1,1,1,0,1,0,1,1,1,0,1,0,1],[4,5,6,10,11,12,0,1,2,3,7,8,9,13,14,15,16],(okX_len (n:=17) rfl (by decide +kernel)),?_⟩;(conv=>whnf);(fail_if_success (apply fa_)))|(refine ⟨[0,1,1,0,1,0,1,1,0,1,1,0,0,1,1,0,1,1,0,1,1,3],[4,9,16,0,1,2,3,5,6,7,8,10,11,12,13,14,15,17,18,19,20,21],(okX_len (n:=22) rfl (by decide +kernel)),?_⟩;(conv=>whnf);(fail_if_success (apply fa_)))|(refine ⟨[0,1,1,0,1,1,1,0,0,1,1,0,1,1,1,0,1,0,0,1,1,0,1,1,0,1,1,3],[4,5,6,12,13,14,22,0,1,2,3,7,8,9,10,11,15,16,17,18,19,20,21,23,24,25,26,27],(okX_len (n:=28) rfl (by decide +kernel)),?_⟩;(conv=>whnf);(fail_if_success (apply fa_))))|(apply ob0_;first|(exact q1)|(exact q2)|(exact q3 _ _)|(exact q4)|exact obc_|(exact of_decide_eq_true rfl))|(apply And.intro<;>(intro h;have hc:=h;(try exact nc1_ hc);(try exact nc2_ hc);try simp only [bs]at h))|(intro h;(try (unfold und at h;conv at h=>whnf));try simp only [bs]at h)|(apply wr0_;exact wrc_)|(apply wg0_;exact wgc_))
  all_goals (conv=>whnf)
  ·refine Or.inl ⟨_,_,_,_,[0,12,13,14,15,16],hc_close (count:=cnt) (index:=ix) (low:=_) (nx:=nx2) (parts:=prs) hcl1 hs6 hp7 hrg,rfl,rfl,rfl,rfl,rfl,(And.intro rfl (And.intro rfl (And.intro rfl (And.intro rfl (And.intro rfl (And.intro rfl trivial)))))),?_⟩;rintro _ _ _ ⟨rfl,rfl,rfl⟩;refine And.intro rfl (And.intro rfl ?_)
   conv=>whnf
   have R:=rnd_ok' hx hG hF _ (step_pop1 hc1 hi (take_last calls) hup (by assumption))
   exact Rnd.mk ⟨rfl,R.1,R.2.1⟩ R.2.2 me_
  ·have R:=rnd_ok' hx hG hF _ (step_pop2 hc1 hi (take_last calls) hup (by assumption))
   exact Rnd.mk ⟨rfl,R.1,R.2.1⟩ R.2.2 me_
 ·have hc1:¬ 1<List.length (α:=TabT 44) calls:=by omega
  have hc0:0<List.length (α:=TabT 44) calls:=by omega
  have hi:¬ (topC calls).i<(rowA nx2 (topC calls).v.toNat).length:=by assumption
  have q2:=o1l hc0;have q4:=o1i hc0;have hcl1:inTk stk (topC calls).v (List.length (α:=Int) stk):=inTk_all (top_stack hG hc0);have hrg:∀ w:Int,inTk stk w (List.length (α:=Int) stk)→0≤w∧w<(List.length (α:=TabT 0) prt:Nat):=fun w hw=>by rw [n4];exact hG.sr w (List.mem_of_mem_take hw)
  clear o1 o1l o1i o1s o2 o3 o3l o3p o5 o8
  repeat' (refine bc_ fun g_=>?_;(conv at g_=>(arg 1;whnf));refine g_ ?_;clear g_;first|(intro bq;cases bq;rotate_left;(focus (intro hbq;exact absurd (hbq rfl) (by omega)));intro _)|((fail_if_success (apply cH_));(fail_if_success (apply uR_));apply Or.inl)|(apply rn_;exact rm_;exact me_)|(apply mt_;exact me_)|((fail_if_success (fail_if_success (apply Exists.intro)));first|(refine ⟨[0,1,1,0,1,1,0,0,1,1,0,1,1,0,1],[4,11,0,1,2,3,5,6,7,8,9,10,12,13,14],(okX_len (n:=15) rfl (by decide +kernel)),?_⟩;(conv=>whnf);(fail_if_success (apply fa_)))|(refine ⟨[1,1,1,0,0,1,1,0,1,1,1,0,1,0,0,1],[0,1,2,8,9,10,3,4,5,6,7,11,12,13,14,15],(okX_len (n:=16) rfl (by decide +kernel)),?_⟩;(conv=>whnf);(fail_if_success (apply fa_)))|(refine ⟨[0,1,1,0,1,1,1,0,1,0,1,1,1,0,1,0,1],[4,5,6,10,11,12,0,1,2,3,7,8,9,13,14,15,16],(okX_len (n:=17) rfl (by decide +kernel)),?_⟩;(conv=>whnf);(fail_if_success (apply fa_)))|(refine ⟨[0,1,1,0,1,0,1,1,0,1,1,0,0,1,1,0,1,1,0,1,1,3],[4,9,16,0,1,2,3,5,6,7,8,10,11,12,13,14,15,17,18,19,20,21],(okX_len (n:=22) rfl (by decide +kernel)),?_⟩;(conv=>whnf);(fail_if_success (apply fa_)))|(refine ⟨[0,1,1,0,1,1,1,0,0,1,1,0,1,1,1,0,1,0,0,1,1,0,1,1,0,1,1,3],[4,5,6,12,13,14,22,0,1,2,3,7,8,9,10,11,15,16,17,18,19,20,21,23,24,25,26,27],(okX_len (n:=28) rfl (by decide +kernel)),?_⟩;(conv=>whnf);(fail_if_success (apply fa_))))|(apply ob0_;first|(exact q2)|(exact q4)|exact obc_|(exact of_decide_eq_true rfl))|(apply And.intro<;>(intro h;have hc:=h;(try exact nc1_ hc);(try exact nc2_ hc);try simp only [bs]at h))|(intro h;(try (unfold und at h;conv at h=>whnf));try simp only [bs]at h)|(apply wr0_;exact wrc_)|(apply wg0_;exact wgc_))
  all_goals (conv=>whnf)
  ·refine Or.inl ⟨_,_,_,_,[0,12,13,14,15,16],hc_close (count:=cnt) (index:=ix) (low:=_) (nx:=nx2) (parts:=prs) hcl1 hs6 hp7 hrg,rfl,rfl,rfl,rfl,rfl,(And.intro rfl (And.intro rfl (And.intro rfl (And.intro rfl (And.intro rfl (And.intro rfl trivial)))))),?_⟩;rintro _ _ _ ⟨rfl,rfl,rfl⟩;refine And.intro rfl (And.intro rfl ?_)
   conv=>whnf
   have R:=rnd_ok' hx hG hF _ (step_pop3 hc0 hc1 hi (take_last calls) (by assumption))
   exact Rnd.mk ⟨rfl,R.1,R.2.1⟩ R.2.2 me_
  ·have R:=rnd_ok' hx hG hF _ (step_pop4 hc0 hc1 hi (take_last calls) (by assumption))
   exact Rnd.mk ⟨rfl,R.1,R.2.1⟩ R.2.2 me_
 all_goals (
   have he:=find_end (n:=n) (idx0:=index) (root:=root) (R:=count+1) hF (by show ¬ 0<List.length (α:=TabT 44) calls;omega)
   have hres:RS=⟨ix,lw,stk,prt,prs,cnt⟩:=hRS.symm.trans (show findS nx2 ⟨index,low,[],part,parts,count⟩ root=_ from by
     unfold findS
     rw [hFN,he])
   subst hres;refine⟨[],[],_,_,[12,13,14,15,16],⟨rfl,rfl,rfl⟩,?_⟩
   conv=>whnf
   exact me_)
end Go.SX
