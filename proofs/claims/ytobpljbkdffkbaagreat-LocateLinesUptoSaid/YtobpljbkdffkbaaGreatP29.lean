/- A part of the proof (texts B75, B76, B77, LawU). -/
import Derived.JoinedCond
import Derived.Test.YtobpljbkdffkbaaGreatP15
import Derived.Test.YtobpljbkdffkbaaGreatP16
import Derived.Test.YtobpljbkdffkbaaGreatP26
import Derived.Test.YtobpljbkdffkbaaGreatP27
import Derived.Test.YtobpljbkdffkbaaGreatP28
set_option linter.all false
set_option maxRecDepth 100000
namespace Go.SX
open Go.XK Go.RowKit
def PlOk (l:List (TabT 6)):Prop:=∀ k,k<List.length (α:=TabT 6) l→SzB (gt 6 l k).Sec∧SzB (gt 6 l k).Obj
abbrev pxA (l:List (TabT 6)) (k:Nat):TPlaced:=gt 6 l k
abbrev spN (a s:Int):TabT 22:=(⟨a,s⟩:TSpan)
abbrev innB (k:Int):Bool:=decide (k=0)||decide (k=1)||decide (k=2)
def imAllN (c d z b:Int) (l:List (TabT 6)):Bool:=lp (prB (fun k=>imNode c d z b (gt 6 l k))) prF l.length 0 ()
def n1B (M:List (TabT 6)) (k:Nat) (s:List (TabT 22)×List (TabT 22)×List (TabT 37×TabT 2)) (next:List (TabT 22)×List (TabT 22)×List (TabT 37×TabT 2)→Bool):Bool :=
 bif (mgetT s.2.2 (prN (pxA M k).Obj (pxA M k).Sec)).getD false then false
 else bif innB (pxA M k).Kind then next (s.1++[spN (pxA M k).At (pxA M k).Size],s.2.1,mputT s.2.2 (prN (pxA M k).Obj (pxA M k).Sec) true)
 else next (s.1,s.2.1++[spN (pxA M k).At (pxA M k).Size],mputT s.2.2 (prN (pxA M k).Obj (pxA M k).Sec) true)
def n2B (S:List (TabT 0)) (c:Int) (k:Nat) (s:List (TabT 22)) (next:List (TabT 22)→Bool):Bool :=
 bif !imIns c (s0 S k)||(decide ((0:Int)<(k:Nat))&&decide (s0 S k≤s0 S ((k:Int)-1).toNat))then false else next (s++[spN (s0 S k) 8])
def n2F (b:List (TabT 22)) (s:List (TabT 22)):Bool:=imApart s&&imApart b
def n1F (S:List (TabT 0)) (c:Int) (s:List (TabT 22)×List (TabT 22)×List (TabT 37×TabT 2)):Bool:=lp (n2B S c) (n2F s.2.1) (List.length (α:=TabT 0) S) 0 s.1
def imNodes1 (M:List (TabT 6)) (S:List (TabT 0)) (c:Int):Bool:=lp (n1B M) (n1F S c) (List.length (α:=TabT 6) M) 0 ([],[],[])
def imNodesC (c d z b:Int) (M:List (TabT 6)) (S:List (TabT 0)):Bool:=decide ((4096:Int)<(List.length (α:=TabT 6) M:Nat))||decide ((4096:Int)<(List.length (α:=TabT 0) S:Nat)) || !imAllN c d z b M
def imNodes (c d z b:Int) (M:List (TabT 6)) (S:List (TabT 0)):Bool:=bif imNodesC c d z b M S then false else imNodes1 M S c
set_option maxHeartbeats 4000000 in
@[reducible] def a_CG:List SV→PR
 |[.lst z_ 6 l,.clo 44 [] [.fp [.str mA,.b mB,.i mC,.i mD,.i mE,.str mF,.str mG,.i mH,.lst zI 6 mI,.lst zJ 8 mJ,.lst zK 10 mK,.lst zL 0 mL,.lst zM 0 mM,.lst zN 13 mN,.lst zO 0 mO,.lst zP 0 mP,.i mQ,.lst zR 1 mR,.lst zS 16 mS,.lst zT 18 mT,.lst zU 20 mU,.lst zV 22 mV,.lst zW 24 mW,.lst zX 26 mX,.lst zY 28 mY,.lst zZ 33 mZ] 0]]=>.ob (PlOk l) (.b (lp (prB (fun k=>imNode mC mD mE mH (gt 6 l k))) prF l.length 0 ()))
 |_=>.no
set_option maxHeartbeats 4000000 in
theorem o_DU:FOK 43 a_CG:=by
 intro args m ids vs hG hm hv;unfold a_CG;split
 ·rename_i z_ l mA mB mC mD mE mF mG mH zI mI zJ mJ zK mK zL mL zM mM zN mN zO mO zP mP mQ zR mR zS mS zT mT zU mU zV mV zW mW zX mX zY mY zZ mZ;intro hb;refine calls_fact (DB:=[F_Au]) (IL:=[]) (WL:=[]) (fn:=Proofs.Tryz.f43) rfl rfl rfl rfl rfl rfl (fun hk=>?_) m ids vs hG hm hv
  clear hG hm hv;simp only [know]at hk
  repeat' (refine bc_ fun g_=>?_;(conv at g_=>(arg 1;whnf));refine g_ ?_;clear g_;first|((fail_if_success (apply cH_));(fail_if_success (apply uR_));apply Or.inl)|(apply rn_;exact rm_;exact me_)|(apply mt_;exact me_)|(apply ob0_;first|(exact hb _ (by omega))|exact obc_)|(apply And.intro<;>(intro h;have hc:=h;try simp only [bs]at h))|(intro h;(try (unfold und at h;conv at h=>whnf));try simp only [bs]at h)|(apply wr0_;exact wrc_)|(apply wg0_;exact wgc_))
  all_goals (conv=>whnf)
  refine Or.inr (Or.inr ⟨[],[9],[],[],[1,7,8],[],?_⟩);conv=>whnf
  refine⟨fun(s:Int×Unit) (t:Unit)=>0≤s.1∧s.1≤l.length∧lp (prB (fun k=>imNode mC mD mE mH (gt 6 l k))) prF l.length 0 ()=lp (prB (fun k=>imNode mC mD mE mH (gt 6 l k))) prF (l.length-s.1.toNat) s.1.toNat (()),fun(s:Int×Unit) (_:Unit)=>(l.length-s.1).toNat,?_⟩
  conv=>whnf
  refine Ini.mk ⟨by(try dsimp only);omega,by(try dsimp only);omega,rfl⟩ me_ ?_
  rintro⟨(k:Int),_⟩ _ ⟨h0,h1,hS⟩
  try dsimp only at h0 h1 hS
  obtain⟨k,rfl⟩:=Int.eq_ofNat_of_zero_le (show(0:Int)≤k by omega)
  rw [Int.toNat_natCast]at hS
  repeat' (refine bc_ fun g_=>?_;(conv at g_=>(arg 1;whnf));refine g_ ?_;clear g_;first|((fail_if_success (apply cH_));(fail_if_success (apply uR_));apply Or.inl)|(apply rn_;exact rm_;exact me_)|(apply mt_;exact me_)|(apply ob0_;first|(exact hb _ (by omega))|exact obc_)|(apply And.intro<;>(intro h;have hc:=h;try simp only [bs]at h))|(intro h;(try (unfold und at h;conv at h=>whnf));try simp only [bs]at h)|(apply wr0_;exact wrc_)|(apply wg0_;exact wgc_))
  all_goals (conv=>whnf)
  all_goals first
   |((try dsimp only);refine⟨by omega,by omega,hS.trans ((lp_lt (by omega)).trans ?_)⟩;rw [show((k:Int)+1).toNat=k+1 by omega];symm;unfold prB;(try dsimp only);all_goals exact cl_)
   |((try dsimp only);refine Eq.trans ?_ (hS.trans (lp_lt (by omega))).symm;unfold prB;(try dsimp only);all_goals exact cl_)
   |((try dsimp only);refine Eq.trans ?_ (hS.trans (lp_z (by omega))).symm;unfold prF;(try dsimp only);all_goals exact cl_)
 ·trivial
noncomputable def F_AR:Fact E0:=Fact.co [.lst none 6 [],.clo 44 [] [.fp [.un,.un,.un,.un,.un,.un,.un,.un,.lst none 6 [],.lst none 8 [],.lst none 10 [],.lst none 0 [],.lst none 0 [],.lst none 13 [],.lst none 0 [],.lst none 0 [],.un,.lst none 1 [],.lst none 16 [],.lst none 18 [],.lst none 20 [],.lst none 22 [],.lst none 24 [],.lst none 26 [],.lst none 28 [],.lst none 33 []] 0]] ⟨43,a_CG,by unfold FnOK;kernel_rfl,o_DU⟩
theorem pr_all {p:Nat→Bool}:∀ (n k:Nat),lp (prB p) prF n k ()=true→∀ j,k≤j→j<k+n→p j=true
 |0,k,_,j,h1,h2=>absurd h2 (by omega)
 |n+1,k,h,j,h1,h2=>by
   have h3:(bif !p k then false else lp (prB p) prF n (k+1) ())=true:=h
   cases hp:p k with
   |false=>rw [hp]at h3;cases h3
   |true =>
     rw [hp]at h3
     by_cases e:j=k
     ·rw [e];exact hp
     ·exact pr_all n (k+1) h3 j (by omega) (by omega)
theorem imNode_b {c d z b:Int} {x:TPlaced} (h:imNode c d z b x=true):0≤x.At∧x.At≤1048576∧0≤x.Size∧x.Size≤1048576:=by
 unfold imNode at h
 cases hc:imNodeC x with
 |true=>rw [hc]at h;cases h
 |false =>
   unfold imNodeC at hc;simp only [Bool.or_eq_false_iff,Bool.not_eq_false',imBtw,Bool.and_eq_true,decide_eq_true_iff]at hc;obtain⟨⟨_,h1,h2⟩,h3,h4⟩:=hc;exact⟨h3,h4,h1,h2⟩
theorem imIns_b {c n:Int} (h0:0≤c) (h1:c≤1048576) (h:imIns c n=true):0≤n∧n≤1099511627776:=by
 unfold imIns imBtw at h;rw [wrap_id ⟨by omega,by omega⟩]at h
 simp only [Bool.and_eq_true,decide_eq_true_iff]at h;exact⟨h.1.1,by omega⟩
def APk (a b:List (TabT 22)) (n:Nat):Prop:=List.length (α:=TabT 22) a≤n∧List.length (α:=TabT 22) b≤n∧ApOk a∧ApOk b
theorem ApOk.nil:ApOk []:=fun _ h=>by cases h
theorem ApOk.add {l:List (TabT 22)} (h:ApOk l) {a s:Int} (h1:0≤a) (h2:a≤1099511627776) (h3:s≤1099511627776):ApOk (l++[spN a s]):=fun x hx=>by
 rcases List.mem_append.1 hx with hx|hx
 ·exact h x hx
 ·rw [List.mem_singleton.1 hx];exact⟨h1,h2,h3⟩
theorem APk.left {a b:List (TabT 22)} {n:Nat} (h:APk a b n) {x s:Int} (h1:0≤x) (h2:x≤1099511627776) (h3:s≤1099511627776):APk (a++[spN x s]) b (n+1) :=
 ⟨by rw [List.length_append];exact Nat.succ_le_succ h.1,Nat.le_succ_of_le h.2.1,h.2.2.1.add h1 h2 h3,h.2.2.2⟩
theorem APk.right {a b:List (TabT 22)} {n:Nat} (h:APk a b n) {x s:Int} (h1:0≤x) (h2:x≤1099511627776) (h3:s≤1099511627776):APk a (b++[spN x s]) (n+1) :=
 ⟨Nat.le_succ_of_le h.1,by rw [List.length_append];exact Nat.succ_le_succ h.2.1,h.2.2.1,h.2.2.2.add h1 h2 h3⟩
theorem ap_len {l:List (TabT 22)} {n:Nat} (h:List.length (α:=TabT 22) l≤n) (hn:n≤10000) (x:TabT 22):(List.length (α:=TabT 22) l+List.length (α:=TabT 22) [x])*BT 22≤140737488355328:=by
 show(List.length (α:=TabT 22) l+1)*16≤_;omega
theorem imNodesC_no {c d z b:Int} {M:List (TabT 6)} {S:List (TabT 0)} (h:imNodesC c d z b M S=false):List.length (α:=TabT 6) M≤4096∧List.length (α:=TabT 0) S≤4096∧∀ k,k<List.length (α:=TabT 6) M→imNode c d z b (gt 6 M k)=true:=by
 unfold imNodesC at h;rw [Bool.or_eq_false_iff,Bool.or_eq_false_iff]at h;obtain⟨⟨h1,h2⟩,h3⟩:=h;have h1:=of_decide_eq_false h1;have h2:=of_decide_eq_false h2;refine⟨by omega,by omega,fun k hk=>?_⟩
 have h3:imAllN c d z b M=true:=by simpa using h3
 exact pr_all _ 0 h3 k (Nat.zero_le _) (by rw [Nat.zero_add];exact hk)
end Go.SX
namespace Go.SX
open Go.XK Go.RowKit
set_option maxHeartbeats 8000000 in
@[reducible] def a_Cf:List SV→PR
 |[.agg [.str mA,.b mB,.i mC,.i mD,.i mE,.str mF,.str mG,.i mH,.lst zI 6 mI,.lst zJ 8 mJ,.lst zK 10 mK,.lst zL 0 mL,.lst zM 0 mM,.lst zN 13 mN,.lst zO 0 mO,.lst zP 0 mP,.i mQ,.lst zR 1 mR,.lst zS 16 mS,.lst zT 18 mT,.lst zU 20 mU,.lst zV 22 mV,.lst zW 24 mW,.lst zX 26 mX,.lst zY 28 mY,.lst zZ 33 mZ]]=>.ob (PlOk mI∧0≤mC∧mC≤1048576) (.b (imNodes mC mD mE mH mI mM))
 |_=>.no
set_option maxHeartbeats 8000000 in
theorem o_Dt:FOK 14 a_Cf:=by
 intro args m ids vs hG hm hv;unfold a_Cf;split
 ·rename_i mA mB mC mD mE mF mG mH zI mI zJ mJ zK mK zL mL zM mM zN mN zO mO zP mP mQ zR mR zS mS zT mT zU mU zV mV zW mW zX mX zY mY zZ mZ;intro hb;obtain⟨hb,hc0,hc1⟩:=hb;refine calls_fact (DB:=[F_AR,F_An,F_Ao,F_AV]) (IL:=[]) (WL:=[]) (fn:=Proofs.Tryz.f14) rfl rfl rfl rfl rfl rfl (fun hk=>?_) m ids vs hG hm hv
  clear hG hm hv;have hg:imNodes mC mD mE mH mI mM=(bif imNodesC mC mD mE mH mI mM then false else imNodes1 mI mM mC):=rfl;have hg2:imNodes1 mI mM mC=lp (n1B mI) (n1F mM mC) (List.length (α:=TabT 6) mI) 0 ([],[],[]):=rfl;rw [hg];generalize imNodes1 mI mM mC=Z at hg2;clear hg
  repeat' (refine bc_ fun g_=>?_;(conv at g_=>(arg 1;whnf));refine g_ ?_;clear g_;first|(intro bq;cases bq;rotate_left;(focus (intro hbq;exact absurd (hbq rfl) (by omega)));intro _)|((fail_if_success (apply cH_));(fail_if_success (apply uR_));apply Or.inl)|(apply rn_;exact rm_;exact me_)|(apply mt_;exact me_)|(apply ob0_;first|(exact hb)|(exact fun _=>hb)|exact obc_|(exact of_decide_eq_true rfl))|(apply And.intro<;>(intro h;have hc:=h;(try exact nc1_ hc);(try exact nc2_ hc);try simp only [bs]at h))|(intro h;(try (unfold und at h;conv at h=>whnf));try simp only [bs]at h)|(apply wr0_;exact wrc_)|(apply wg0_;exact wgc_)|((fail_if_success (fail_if_success (apply Exists.intro)));first|refine Exists.intro _ (And.intro rfl ?_)|refine Exists.intro _ (And.intro (fun _=>rfl) ?_)))
  all_goals (conv=>whnf)
  ·exact eq_ct (by assumption) rfl
  have hg0:imNodesC mC mD mE mH mI mM=false:=by assumption
  obtain⟨hN,hSt,hAll⟩:=imNodesC_no hg0;refine Or.inr (Or.inr ⟨[(3,65,22),(4,65,22)],[3,4,33],[],[1],[1,5,31,32,77,78,79,80,81,82,83,84,85,86,87,88,99,100],[],?_⟩);conv=>whnf
  refine⟨fun(s:Unit×Unit×Int×Unit) (t:List (TabT 22)×(List (TabT 22)×(List (TabT 37×TabT 2)×Unit)))=>∃ k:Nat,s.2.2.1=k∧k≤List.length (α:=TabT 6) mI∧APk t.1 t.2.1 k∧Z=lp (n1B mI) (n1F mM mC) (List.length (α:=TabT 6) mI-k) k (t.1,t.2.1,t.2.2.1),fun(s:Unit×Unit×Int×Unit) _=>((List.length (α:=TabT 6) mI:Nat)-s.2.2.1).toNat,?_⟩
  conv=>whnf
  refine Ini.mk ⟨0,rfl,Nat.zero_le _,⟨Nat.le_refl _,Nat.le_refl _,ApOk.nil,ApOk.nil⟩,hg2⟩ me_ ?_;rintro⟨_,_,(k:Int),_⟩ ⟨(m0:List (TabT 22)),(b0:List (TabT 22)),(q0:List (TabT 37×TabT 2)),_⟩ ⟨k,hk1,hk2,hA,hS⟩;replace hk1:_=(k:Int):=hk1;subst hk1;replace hk2:k≤List.length (α:=TabT 6) mI:=hk2;replace hA:APk m0 b0 k:=hA;replace hS:Z=lp (n1B mI) (n1F mM mC) (List.length (α:=TabT 6) mI-k) k (m0,b0,q0):=hS;refine gK fun K hK=>?_
  by_cases hkl:k<List.length (α:=TabT 6) mI
  ·have hd:decide ((k:Int)<(List.length (α:=TabT 6) mI:Nat))=true:=decide_eq_true (by omega)
   have hS2:=hS.trans (lp_lt hkl);have hx:=imNode_b (hAll k hkl);have hA1:=hA.1;have hA2:=hA.2.1;have hn:k≤10000:=by omega
   repeat' ((try refine gKe (by assumption) ?_);refine bc_ fun g_=>?_;(conv at g_=>(arg 1;whnf));refine g_ ?_;clear g_;first|(intro bq;cases bq;rotate_left;(focus (intro hbq;exact absurd (hbq rfl) (by omega)));intro _)|((fail_if_success (apply cH_));(fail_if_success (apply uR_));apply Or.inl)|(apply rn_;exact rm_;exact me_)|(apply mt_;exact me_)|(apply ob0_;first|(exact ap_len (n:=k) (by assumption) hn _)|exact obc_|(exact of_decide_eq_true rfl))|(apply And.intro<;>(intro h;have hc:=h;(try exact nc1_ hc);(try exact nc2_ hc);(try exact nc3_ hc);(try exact nc4_ hc);try simp only [bs]at h))|(intro h;(try (unfold und at h;conv at h=>whnf));try simp only [bs]at h)|(apply wr0_;exact wrc_)|(apply wg0_;exact wgc_)|refine gKe (by assumption) ?_)
   all_goals ((try refine gKe (by assumption) ?_);(conv=>whnf))
   all_goals first
    |(refine eq_cf hg0 ?_;refine Eq.trans ?_ hS2.symm;unfold n1B;all_goals exact cl_)
    |(refine⟨k+1,rfl,hkl,hA.left hx.1 (Int.le_trans hx.2.1 (by decide)) (Int.le_trans hx.2.2.2 (by decide)),hS2.trans ?_⟩;symm;unfold n1B;all_goals exact cl_)
    |(refine⟨k+1,rfl,hkl,hA.right hx.1 (Int.le_trans hx.2.1 (by decide)) (Int.le_trans hx.2.2.2 (by decide)),hS2.trans ?_⟩;symm;unfold n1B;all_goals exact cl_)
  have hd:decide ((k:Int)<(List.length (α:=TabT 6) mI:Nat))=false:=decide_eq_false (by omega)
  have hS3:Z=n1F mM mC (m0,b0,q0):=hS.trans (lp_z (by omega))
  have hS4:Z=lp (n2B mM mC) (n2F b0) (List.length (α:=TabT 0) mM) 0 m0:=hS3
  repeat' ((try refine gKe (by assumption) ?_);refine bc_ fun g_=>?_;(conv at g_=>(arg 1;whnf));refine g_ ?_;clear g_;first|(intro bq;cases bq;rotate_left;(focus (intro hbq;exact absurd (hbq rfl) (by omega)));intro _)|((fail_if_success (apply cH_));(fail_if_success (apply uR_));apply Or.inl)|(apply rn_;exact rm_;exact me_)|(apply mt_;exact me_)|(apply ob0_;first|exact obc_|(exact of_decide_eq_true rfl))|(apply And.intro<;>(intro h;have hc:=h;(try exact nc1_ hc);(try exact nc2_ hc);(try exact nc3_ hc);(try exact nc4_ hc);try simp only [bs]at h))|(intro h;(try (unfold und at h;conv at h=>whnf));try simp only [bs]at h)|(apply wr0_;exact wrc_)|(apply wg0_;exact wgc_)|refine gKe (by assumption) ?_)
  all_goals ((try refine gKe (by assumption) ?_);(conv=>whnf))
  have hA0:List.length (α:=TabT 22) m0≤4096:=Nat.le_trans hA.1 (by omega)
  refine Or.inr (Or.inr ⟨[(3,65,22)],[3,67,77,78,79,80,81,82,83,84,85,86,87,88],[],[],[1,4,65,66,99,100],[2],?_⟩);conv=>whnf
  refine⟨fun(s:Unit×Int×Unit) (t:List (TabT 22)×Unit)=>∃ j:Nat,s.2.1=j∧j≤List.length (α:=TabT 0) mM∧APk t.1 b0 (4096+j)∧Z=lp (n2B mM mC) (n2F b0) (List.length (α:=TabT 0) mM-j) j t.1,fun(s:Unit×Int×Unit) _=>((List.length (α:=TabT 0) mM:Nat)-s.2.1).toNat,?_⟩
  conv=>whnf
  refine Ini.mk ⟨0,rfl,Nat.zero_le _,⟨hA0,Nat.le_trans hA.2.1 (by omega),hA.2.2⟩,hS4⟩ me_ ?_
  rintro⟨_,(j:Int),_⟩ ⟨(m1:List (TabT 22)),_⟩ ⟨j,hj1,hj2,hB,hT⟩;replace hj1:_=(j:Int):=hj1;subst hj1;replace hj2:j≤List.length (α:=TabT 0) mM:=hj2;replace hB:APk m1 b0 (4096+j):=hB;replace hT:Z=lp (n2B mM mC) (n2F b0) (List.length (α:=TabT 0) mM-j) j m1:=hT;clear hK;refine gK fun K2 hK2=>?_
  by_cases hjl:j<List.length (α:=TabT 0) mM
  ·have hd2:decide ((j:Int)<(List.length (α:=TabT 0) mM:Nat))=true:=decide_eq_true (by omega)
   have hT2:=hT.trans (lp_lt hjl);have hB1:=hB.1;have hn:4096+j≤10000:=by omega
   have hin:∀ {q:Bool},(!imIns mC (s0 mM j)||q)=false→0≤s0 mM j∧s0 mM j≤1099511627776:=fun h=>imIns_b hc0 hc1 (by
     have h2:=(Bool.or_eq_false_iff.1 h).1
     simpa using h2)
   have hp1:0<(j:Int)→0≤(j:Int)-1∧(j:Int)-1<(List.length (α:=TabT 0) mM:Nat):=fun h=>⟨by omega,by omega⟩
   repeat' ((try refine gKe (by assumption) ?_);refine bc_ fun g_=>?_;(conv at g_=>(arg 1;whnf));refine g_ ?_;clear g_;first|(intro bq;cases bq;rotate_left;(focus (intro hbq;exact absurd (hbq rfl) (by omega)));intro _)|((fail_if_success (apply cH_));(fail_if_success (apply uR_));apply Or.inl)|(apply rn_;exact rm_;exact me_)|(apply mt_;exact me_)|(apply ob0_;first|(exact ap_len (n:=4096+j) (by assumption) hn _)|exact obc_|(exact of_decide_eq_true rfl))|(apply And.intro<;>(intro h;have hc:=h;(try exact nc1_ hc);(try exact nc2_ hc);(try exact nc3_ hc);(try exact nc4_ hc);try simp only [bs]at h))|(intro h;(try (unfold und at h;conv at h=>whnf));try simp only [bs]at h)|(apply wr0_;exact wrc_)|(apply wg0_;exact wgc_)|refine gKe (by assumption) ?_)
   all_goals ((try refine gKe (by assumption) ?_);(conv=>whnf))
   all_goals first
    |(refine eq_cf hg0 ?_;refine Eq.trans ?_ hT2.symm;unfold n2B;all_goals exact cl_)
    |(refine⟨j+1,rfl,hjl,hB.left (hin (by assumption)).1 (hin (by assumption)).2 (by decide),hT2.trans ?_⟩;symm;unfold n2B;all_goals exact cl_)
  have hd2:decide ((j:Int)<(List.length (α:=TabT 0) mM:Nat))=false:=decide_eq_false (by omega)
  have hT3:Z=n2F b0 m1:=hT.trans (lp_z (by omega))
  repeat' ((try refine gKe (by assumption) ?_);refine bc_ fun g_=>?_;(conv at g_=>(arg 1;whnf));refine g_ ?_;clear g_;first|(intro bq;cases bq;rotate_left;(focus (intro hbq;exact absurd (hbq rfl) (by omega)));intro _)|((fail_if_success (apply cH_));(fail_if_success (apply uR_));apply Or.inl)|(apply rn_;exact rm_;exact me_)|(apply mt_;exact me_)|(apply ob0_;first|(exact hB.2.2.1)|(exact fun _=>hB.2.2.2)|exact obc_|(exact of_decide_eq_true rfl))|(apply And.intro<;>(intro h;have hc:=h;(try exact nc1_ hc);(try exact nc2_ hc);(try exact nc3_ hc);(try exact nc4_ hc);try simp only [bs]at h))|(intro h;(try (unfold und at h;conv at h=>whnf));try simp only [bs]at h)|(apply wr0_;exact wrc_)|(apply wg0_;exact wgc_)|refine gKe (by assumption) ?_)
  all_goals ((try refine gKe (by assumption) ?_);(conv=>whnf))
  all_goals exact eq_cf hg0 hT3.symm
 ·trivial
noncomputable def F_At:Fact E0:=Fact.co [.agg [.un,.un,.un,.un,.un,.un,.un,.un,.lst none 6 [],.lst none 8 [],.lst none 10 [],.lst none 0 [],.lst none 0 [],.lst none 13 [],.lst none 0 [],.lst none 0 [],.un,.lst none 1 [],.lst none 16 [],.lst none 18 [],.lst none 20 [],.lst none 22 [],.lst none 24 [],.lst none 26 [],.lst none 28 [],.lst none 33 []]] ⟨14,a_Cf,by unfold FnOK;kernel_rfl,o_Dt⟩
end Go.SX
namespace Go.SX
open Go.XK Go.RowKit
def imInfo (m:TImage):Bool:=lp (prB (fun k=>imMark m.Zero m.Info.Marks k (gt 18 m.Info.Marks k))) prF m.Info.Marks.length 0 ()&&lp (prB (fun k=>imLine m.Code m.Info.Lines k (gt 20 m.Info.Lines k))) prF m.Info.Lines.length 0 ()&&imEnds m.Code m.Info.Ends&&(imRows m.Code (fun k=>((gt 24 m.Info.Inlines k).Sec,(gt 24 m.Info.Inlines k).From,(gt 24 m.Info.Inlines k).To)) m.Info.Inlines.length&&lp (prB (fun k=>imInl (gt 24 m.Info.Inlines k))) prF m.Info.Inlines.length 0 ())&&(imRows m.Code (fun k=>((gt 26 m.Info.Vars k).Sec,(gt 26 m.Info.Vars k).From,(gt 26 m.Info.Vars k).To)) m.Info.Vars.length&&lp (prB (fun k=>imVar m.Zero (gt 26 m.Info.Vars k))) prF m.Info.Vars.length 0 ())&&(imRows m.Code (fun k=>((gt 28 m.Info.Depths k).Sec,(gt 28 m.Info.Depths k).From,(gt 28 m.Info.Depths k).To)) m.Info.Depths.length&&lp (prB (fun k=>imDep (gt 28 m.Info.Depths k))) prF m.Info.Depths.length 0 ())
def imRight (m:TImage):Bool:=imSizes m.Code m.Data m.Zero m.Bytes m.Tls m.Block m.Name&&imNodes m.Code m.Data m.Zero m.Block m.Nodes m.Stubs&&imExports m.Exports m.Zero m.Block&&imImports m.Imports m.Slots m.Code m.Data&&imDyns m.Dyns m.Slots m.Data m.Imports.length&&imStarts m.Inits m.Lasts m.Entry m.Code m.Lib&&imNeeds m.Name m.Needs m.Versions&&imInfo m&&imChanges m.Code m.Changes
structure ImOk (m:TImage):Prop where
 name:SzB m.Name
 nodes:PlOk m.Nodes
 exps:∀ k,k<List.length (α:=TabT 8) m.Exports→SzB (exA m.Exports k).Name∧SzB (exA m.Exports k).Version
 imps:∀ k,k<List.length (α:=TabT 10) m.Imports→SzB (imA m.Imports k).Name∧SzB (imA m.Imports k).Version
 vers:vOk m.Versions
 needs:∀ k,k<List.length (α:=TabT 1) m.Needs→SzB (gt 1 m.Needs k)
 chg:CvOk m.Changes
theorem imSizes_b {c d z k:Int} {b t nm:ByteArray} (h:imSizes c d z b t k nm=true):0≤c∧c≤1048576:=by
 unfold imSizes at h;simp only [Bool.and_eq_true,decide_eq_true_iff]at h;obtain⟨⟨⟨⟨⟨⟨⟨_,h1⟩,h2⟩,h3⟩,h4⟩,_⟩,_⟩,_⟩:=h;exact⟨h1,by omega⟩
theorem imImports_len {l:List (TabT 10)} {S:List (TabT 0)} {c d:Int} (h:imImports l S c d=true):S.length=l.length:=by
 unfold imImports at h
 cases hc:decide ((4096:Int)<(List.length (α:=TabT 10) l:Nat)) || !decide ((List.length (α:=TabT 0) S:Int)=(List.length (α:=TabT 10) l:Nat))with
 |true=>rw [hc]at h;cases h
 |false =>
   have h2:=(Bool.or_eq_false_iff.1 hc).2;have h3:(List.length (α:=TabT 0) S:Int)=(List.length (α:=TabT 10) l:Nat):=by simpa using h2
   exact Int.ofNat.inj h3
set_option maxHeartbeats 8000000 in
@[reducible] def a_Bz:List SV→PR
 |[.agg [.str mA,.b mB,.i mC,.i mD,.i mE,.str mF,.str mG,.i mH,.lst zI 6 mI,.lst zJ 8 mJ,.lst zK 10 mK,.lst zL 0 mL,.lst zM 0 mM,.lst zN 13 mN,.lst zO 0 mO,.lst zP 0 mP,.i mQ,.lst zR 1 mR,.lst zS 16 mS,.lst zT 18 mT,.lst zU 20 mU,.lst zV 22 mV,.lst zW 24 mW,.lst zX 26 mX,.lst zY 28 mY,.lst zZ 33 mZ]]=>.ob (ImOk (⟨mA,mB,mC,mD,mE,mF,mG,mH,mI,mJ,mK,mL,mM,mN,mO,mP,mQ,mR,mS,⟨mT,mU,mV,mW,mX,mY⟩,mZ⟩:TImage)) (.b (imRight (⟨mA,mB,mC,mD,mE,mF,mG,mH,mI,mJ,mK,mL,mM,mN,mO,mP,mQ,mR,mS,⟨mT,mU,mV,mW,mX,mY⟩,mZ⟩:TImage)))
 |_=>.no
set_option maxHeartbeats 8000000 in
theorem o_DN:FOK 7 a_Bz:=by
 intro args m ids vs hG hm hv;unfold a_Bz;split
 ·rename_i mA mB mC mD mE mF mG mH zI mI zJ mJ zK mK zL mL zM mM zN mN zO mO zP mP mQ zR mR zS mS zT mT zU mU zV mV zW mW zX mX zY mY zZ mZ;intro hb;have h1:=hb.name;have h2:=hb.nodes;have h3:=hb.exps;have h4:=hb.imps;have h5:=hb.vers;have h6:=hb.needs;have h7:=hb.chg;refine calls_fact (DB:=[F_Az,F_At,F_Ac,F_Ad,F_Ab,F_BA,F_Ar,F_Ae,F_AY]) (IL:=[]) (WL:=[]) (fn:=Proofs.Tryz.f7) rfl rfl rfl rfl rfl rfl (fun hk=>?_) m ids vs hG hm hv
  clear hG hm hv
  repeat' (refine bc_ fun g_=>?_;(conv at g_=>(arg 1;whnf));refine g_ ?_;clear g_;first|((fail_if_success (apply cH_));(fail_if_success (apply uR_));apply Or.inl)|(apply rn_;exact rm_;exact me_)|(apply mt_;exact me_)|(apply ob0_;first|(exact h1)|(exact fun hq=>⟨h2,imSizes_b hq⟩)|(exact fun _=>h3)|(exact fun _=>h4)|(exact fun hq=>imImports_len (Bool.and_eq_true_iff.1 hq).2)|(exact fun _=>⟨h5,h6⟩)|(exact fun _=>h7)|exact obc_)|(apply And.intro<;>(intro h;have hc:=h;try simp only [bs]at h))|(intro h;(try (unfold und at h;conv at h=>whnf));try simp only [bs]at h)|(apply wr0_;exact wrc_)|(apply wg0_;exact wgc_))
  all_goals (conv=>whnf)
  all_goals first|exact rfl
 ·trivial
noncomputable def F_AK:Fact E0:=Fact.co [.agg [.un,.un,.un,.un,.un,.un,.un,.un,.lst none 6 [],.lst none 8 [],.lst none 10 [],.lst none 0 [],.lst none 0 [],.lst none 13 [],.lst none 0 [],.lst none 0 [],.un,.lst none 1 [],.lst none 16 [],.lst none 18 [],.lst none 20 [],.lst none 22 [],.lst none 24 [],.lst none 26 [],.lst none 28 [],.lst none 33 []]] ⟨7,a_Bz,by unfold FnOK;kernel_rfl,o_DN⟩
end Go.SX
namespace Go.XK
open Go.RowKit Go.ChangeShapes Go.WideShapes Go.ChangeAt
theorem law_liftedU {H:Type} {enc:TypeId×Value→H} {C:Checked} {os:Os} {f:FuncId} {fn:Func} {s:ChangeSpec} {conds:List PathCond} {tb:TypeId} {F:Stop.Interp}
   (own:ownKnob C.prog.godebug=none) (started:os.Started) (noInit:C.prog.inits.idxOf? f=none) (hfn:C.prog.funcs[f]?=some fn)
   (witness:∃ (w:World) (tape:Tape) (i:Input),w.os=os∧(w.forCall tape i).Shaped C.prog∧i.vars=[]∧Input.okWide C.prog (w.forCall tape i) .any w.heap.size f i ∧
     (Go.Proofs.YtobpljbkdffkbaaGreat.Rows.OpenSpec.upto s).pre6 enc C.prog fn conds false (w.forCall tape i).memory i.args∧({}:Assume).holds C.prog (lone (Frame.enter C.prog f i.args .normal) [] (w.forCall tape i)))
   (hlaid:laidOutB C.prog=true) (hread:fn.params.toList.all (fun t=>C.prog.readableRec t&&Nat.blt t C.prog.types.size)=true) (hvars:s.vars=[])
   (hres:fn.resultTypes = #[tb]) (htb:C.prog.underlying tb=some .bool)
   (hs:∀ ds:List (DataW H),ds.length=fn.params.toList.length→s.fn H ds={ results:=[.lit (.bool true)],args:=ds })
   (walk:∀ (W:World) (base:Nat) (args:Array Value) (ds:List (DataW H)) (p:List MemPlace),(∀ (j:Nat) t v,fn.params[j]?=some t→args[j]?=some v→Value.okWide C.prog W .any base t v) →
     DataW.TrodAll enc C.prog W 0 (fun _=>true) true fn.params.toList args.toList ds p→SX.bulks ds≤1048576→Calls C.prog f args W fun e W'=>e=.returned (.bool true)∧Ext W W') :
   ReturnsInHanded {} C os f .any ((Go.Proofs.YtobpljbkdffkbaaGreat.Rows.OpenSpec.upto s).pre6 enc C.prog fn conds false) (((Go.Proofs.YtobpljbkdffkbaaGreat.Rows.OpenSpec.upto s).at F).post enc C.prog fn false true false false):=by
 refine returnsInHanded_of_cond (C:=C) (s:=Go.Proofs.YtobpljbkdffkbaaGreat.Rows.OpenSpec.upto s) (k:=Go.Proofs.YtobpljbkdffkbaaGreat.Rows.uptoSmall) rfl own started noInit hfn witness ?_;intro W base args ds gs before hval hW _ hk _;have hW':=hW;obtain⟨p,q,hA,hV,rfl,_,_⟩:=hW;rw [show(Go.Proofs.YtobpljbkdffkbaaGreat.Rows.OpenSpec.upto s).vars=[]from hvars]at hV;obtain⟨rfl,rfl⟩:=trodVars_none hV
 have hb:SX.bulks ds≤1048576:=by
   have:=of_decide_eq_true hk;rw [List.append_nil]at this;exact this
 have hlen:=trodAll_length _ _ _ _ hA;have hlt:∀ x∈p,x.block<W.heap.size:=fun x hx=>by simpa using hW'.lt x (List.mem_append.2 (.inl hx))
 refine(walk W base args ds p hval hA hb).mono fun e W' ⟨he,hx⟩=>?_
 show ∃ v,e=.returned v∧s.post enc C.prog fn false true false false W args v W';refine⟨_,he,ds,[],_,[],p,[],hW',?_,?_,?_,hx.frame _,fun h=>by cases h⟩
 ·rw [List.append_nil,hs ds hlen,hres];exact trodAll_mk1 (shut_bool htb _)
 ·rw [List.append_nil,hs ds hlen];exact trodAll_below hlaid hx _ _ _ _ hread hA hlt
 ·rw [List.append_nil,hs ds hlen,hvars];rfl
end Go.XK
namespace Go.SX
open Go.XK Go.RowKit
theorem sum_get:∀ {ns:List Nat} {i:Nat} (h:i<ns.length),ns[i]≤ns.sum
 |_::r,0,_=>by simp
 |x::r,i+1,h=>by
   have:=sum_get (ns:=r) (i:=i) (by simpa using h)
   simp only [List.getElem_cons_succ,List.sum_cons];omega
theorem sum_le {α:Type} (f:α→Nat):∀ (l:List α) (ns:List Nat),ns.length=l.length→(∀ (i:Nat) (h:i<l.length) (h':i<ns.length),f l[i]≤ns[i])→(l.map f).sum≤ns.sum
 |[],_,_,_=>Nat.zero_le _
 |x::r,[],h,_=>by simp at h
 |x::r,n::ns,h,k=>by
   have h0:=k 0 (by simp) (by simp)
   have h1:=sum_le f r ns (by simpa using h) fun i a b=>k (i+1) (by simpa using a) (by simpa using b)
   simp only [List.getElem_cons_zero]at h0;simp only [List.map_cons,List.sum_cons];omega
theorem QL.get {α:Type} {Q:α→Nat→Prop} {l:List α} {N:Nat} (h:QL Q l N) {i:Nat} (hi:i<l.length):∃ n,Q l[i] n∧n+1≤N:=by
 obtain⟨ns,h1,h2,h3⟩:=h;have hn:i<ns.length:=by omega
 have:=sum_get hn;exact⟨_,(h3 i hi hn).1,by omega⟩
theorem QL.len {α:Type} {Q:α→Nat→Prop} {l:List α} {N:Nat} (h:QL Q l N):l.length+1≤N:=by
 obtain⟨ns,h1,h2,h3⟩:=h;have:=sum_le (fun _=>1) l ns h1 fun i a b=>(h3 i a b).2
 simp only [List.map_const',List.sum_replicate_nat,Nat.mul_one]at this;omega
theorem QS.sz {s:ByteArray} {n:Nat} (h:QS s n) (hn:n≤1048576):SzB s:=by unfold QS at h;unfold SzB;omega
theorem gt_getU {c:Nat} {l:List (TabT c)} {i:Nat} (h:i<l.length):gt c l i=l[i]:=by
 show l.getD i _=_;rw [List.getD_eq_getElem?_getD,List.getElem?_eq_getElem h];rfl
theorem imOk_of {m:TImage} {N:Nat} (h:QTImage m N) (hN:N≤1048576):ImOk m:=by
 obtain⟨hname,_,_,hnodes,hexps,himps,_,_,_,_,_,hneeds,hvers,_,hchg⟩:=h;refine⟨hname.sz hN,fun k hk=>?_,fun k hk=>?_,fun k hk=>?_,⟨?_,fun k hk=>?_⟩,fun k hk=>?_,fun k hk=>?_⟩
 ·obtain⟨n,h1,h2⟩:=hnodes.get (i:=k) hk;rw [gt_getU (c:=6) hk];exact⟨h1.2.1.sz (by omega),h1.1.sz (by omega)⟩
 ·obtain⟨n,h1,h2⟩:=hexps.get (i:=k) hk;have e:exA m.Exports k=m.Exports[k]:=gt_getU (c:=8) hk;rw [e];exact⟨h1.1.sz (by omega),h1.2.sz (by omega)⟩
 ·obtain⟨n,h1,h2⟩:=himps.get (i:=k) hk;have e:imA m.Imports k=m.Imports[k]:=gt_getU (c:=10) hk;rw [e];exact⟨h1.1.sz (by omega),h1.2.sz (by omega)⟩
 ·obtain⟨ns,h1,h2,h3⟩:=hvers
  have:=sum_le (fun x:TVersionDef=>x.Parents.length) m.Versions ns h1 fun i a b=>by
    have h4:=(h3 i a b).1.2.len;show m.Versions[i].Parents.length≤ns[i];omega
  have e:vpS m.Versions 0=(m.Versions.map fun x:TVersionDef=>x.Parents.length).sum:=rfl
  rw [e];omega
 ·obtain⟨n,h1,h2⟩:=hvers.get (i:=k) hk;have e:vdA m.Versions k=m.Versions[k]:=gt_getU (c:=16) hk;rw [e];exact h1.1.sz (by omega)
 ·obtain⟨n,h1,h2⟩:=hneeds.get (i:=k) hk;rw [gt_getU (c:=1) hk];exact QS.sz h1 (by omega)
 ·obtain⟨n,h1,h2⟩:=hchg.get (i:=k) hk;rw [gt_getU (c:=33) hk];exact⟨h1.2.1.sz (by omega),h1.1.sz (by omega)⟩
end Go.SX
