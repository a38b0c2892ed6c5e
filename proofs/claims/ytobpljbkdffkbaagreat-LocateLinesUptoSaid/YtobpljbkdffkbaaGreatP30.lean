/- A part of the proof (texts LocE, LocL, LocP). -/
import Derived.Test.YtobpljbkdffkbaaGreatP16
import Derived.Test.YtobpljbkdffkbaaGreatP20
import Derived.Test.YtobpljbkdffkbaaGreatP29
set_option linter.all false
set_option maxRecDepth 100000
namespace Go.SX
open Go.XK Go.RowKit Go.LocateLaw
def exMs:List (TabT 18):=([⟨⟨#[102]⟩,0,0,0⟩,⟨⟨#[103]⟩,0,32,0⟩]:List TMark)
def exLs:List (TabT 20):=([⟨0,0,⟨#[97,46,99]⟩,10⟩,⟨0,16,⟨#[97,46,99]⟩,11⟩,⟨0,32,⟨#[97,46,99]⟩,20⟩]:List TLine)
def exEs:List (TabT 22):=([⟨0,64⟩]:List TSpan)
def exIs:List (TabT 24):=([⟨0,8,24,⟨#[104]⟩,⟨#[97,46,99]⟩,10⟩]:List TInline)
set_option maxHeartbeats 4000000 in
@[reducible] def a_Cp:List SV→PR
 |[]=>.ok (.agg [.str ⟨#[]⟩,.b false,.i 0,.i 0,.i 0,.str ⟨#[]⟩,.str ⟨#[]⟩,.i 0,.v (.slice none 0 0),.v (.slice none 0 0),.v (.slice none 0 0),.v (.slice none 0 0),.v (.slice none 0 0),.v (.slice none 0 0),.v (.slice none 0 0),.v (.slice none 0 0),.i 0,.v (.slice none 0 0),.v (.slice none 0 0),.lst (some false) 18 exMs,.lst (some false) 20 exLs,.lst (some false) 22 exEs,.lst (some false) 24 exIs,.v (.slice none 0 0),.v (.slice none 0 0),.v (.slice none 0 0)])
 |_=>.no
set_option maxHeartbeats 4000000 in
theorem o_ED:FOK 12 a_Cp:=by
 intro args m ids vs hG hm hv;unfold a_Cp;split
 ·skip
  refine calls_fact (DB:=[]) (IL:=[]) (WL:=[]) (fn:=Proofs.Tryz.f12) rfl rfl rfl rfl rfl rfl (fun hk=>?_) m ids vs hG hm hv
  clear hG hm hv
  repeat' (refine bc_ fun g_=>?_;(conv at g_=>(arg 1;whnf));refine g_ ?_;clear g_;first|(intro bq;cases bq;rotate_left;(focus (intro hbq;exact absurd (hbq rfl) (by omega)));intro _)|((fail_if_success (apply cH_));(fail_if_success (apply uR_));apply Or.inl)|(apply rn_;exact rm_;exact me_)|(apply mt_;exact me_)|(apply ob0_;first|exact obc_|(exact of_decide_eq_true rfl))|(apply And.intro<;>(intro h;have hc:=h;(try exact nc1_ hc);(try exact nc2_ hc);try simp only [bs]at h))|(intro h;(try (unfold und at h;conv at h=>whnf));try simp only [bs]at h)|(apply wr0_;exact wrc_)|(apply wg0_;exact wgc_)|((fail_if_success (fail_if_success (apply Exists.intro)));first|refine Exists.intro _ (And.intro rfl ?_)|refine Exists.intro _ (And.intro (fun _=>rfl) ?_)))
  all_goals (conv=>whnf)
  refine bc_ fun g_=>?_;(conv at g_=>(arg 1;whnf));refine g_ ?_;clear g_;repeat' (first|((with_reducible apply And.intro)<;>(first|(with_reducible refine leS_q ?_;apply rfl)|(with_reducible refine leH_rf ?_;apply rfl)|(refine bc_ fun g_=>?_;(conv at g_=>(arg 1;whnf));refine g_ ?_;clear g_)))|(with_reducible apply trivial)|apply rfl|apply(Or.inl rfl)|apply(Or.inr rfl)|apply(Or.inr (Or.inl rfl))|apply trivial|(apply And.intro<;>(refine bc_ fun g_=>?_;(conv at g_=>(arg 1;whnf));refine g_ ?_;clear g_)))
 ·trivial
noncomputable def F_BD:Fact E0:=⟨12,a_Cp,by unfold FnOK;kernel_rfl,o_ED⟩
set_option maxHeartbeats 4000000 in
@[reducible] def a_Cu:List SV→PR
 |[]=>.ok (.b true)
 |_=>.no
set_option maxHeartbeats 4000000 in
theorem o_EI:FOK 5 a_Cu:=by
 intro args m ids vs hG hm hv;unfold a_Cu;split
 ·skip
  refine calls_fact (DB:=[F_BD,F_BJ,F_BK,F_BL]) (IL:=[]) (WL:=[]) (fn:=Proofs.Tryz.f5) rfl rfl rfl rfl rfl rfl (fun hk=>?_) m ids vs hG hm hv
  clear hG hm hv
  repeat' (refine bc_ fun g_=>?_;(conv at g_=>(arg 1;whnf));refine g_ ?_;clear g_;first|(intro bq;cases bq;rotate_left;(focus (intro hbq;exact absurd (hbq rfl) (by omega)));intro _)|((fail_if_success (apply cH_));(fail_if_success (apply uR_));apply Or.inl)|(apply rn_;exact rm_;exact me_)|(apply mt_;exact me_)|(apply ob0_;first|(exact(by decide +kernel))|(exact fun _=>(by decide +kernel))|exact obc_)|(apply And.intro<;>(intro h;have hc:=h;try simp only [bs]at h))|(intro h;(try (unfold und at h;conv at h=>whnf));try simp only [bs]at h)|(apply wr0_;exact wrc_)|(apply wg0_;exact wgc_)|((fail_if_success (fail_if_success (apply Exists.intro)));first|refine Exists.intro _ (And.intro rfl ?_)|refine Exists.intro _ (And.intro (fun _=>rfl) ?_)))
  all_goals (conv=>whnf)
  all_goals first|exact absurd hc (by decide +kernel)|decide +kernel|exact⟨by decide +kernel,by decide +kernel⟩|exact fun _=>(by decide +kernel)
 ·trivial
noncomputable def F_BI:Fact E0:=⟨5,a_Cu,by unfold FnOK;kernel_rfl,o_EI⟩
end Go.SX
namespace Go.SX
open Go.XK Go.RowKit Go.LocateLaw
@[reducible] def a_Cs:List SV→PR
 |[.agg [.str mA,.b mB,.i mC,.i mD,.i mE,.str mF,.str mG,.i mH,.lst zI 6 mI,.lst zJ 8 mJ,.lst zK 10 mK,.lst zL 0 mL,.lst zM 0 mM,.lst zN 13 mN,.lst zO 0 mO,.lst zP 0 mP,.i mQ,.lst zR 1 mR,.lst zS 16 mS,.lst zT 18 mT,.lst zU 20 mU,.lst zV 22 mV,.lst zW 24 mW,.lst zX 26 mX,.lst zY 28 mY,.lst zZ 33 mZ]]=>.ok (.b (decide ((List.length (α:=TabT 18) mT:Int)≤60)&&decide ((List.length (α:=TabT 20) mU:Int)≤60)&&decide ((List.length (α:=TabT 22) mV:Int)≤60)&&decide ((List.length (α:=TabT 24) mW:Int)≤60)&&decide ((List.length (α:=TabT 26) mX:Int)≤60)))
 |_=>.no
theorem o_EG:FOK 6 a_Cs:=by
 intro args m ids vs hG hm hv;unfold a_Cs;split
 ·rename_i mA mB mC mD mE mF mG mH zI mI zJ mJ zK mK zL mL zM mM zN mN zO mO zP mP mQ zR mR zS mS zT mT zU mU zV mV zW mW zX mX zY mY zZ mZ;refine calls_fact (DB:=[]) (IL:=[]) (WL:=[]) (fn:=Proofs.Tryz.f6) rfl rfl rfl rfl rfl rfl (fun hk=>?_) m ids vs hG hm hv
  clear hG hm hv;simp only [know]at hk
  repeat' (refine bc_ fun g_=>?_;(conv at g_=>(arg 1;whnf));refine g_ ?_;clear g_;first|((fail_if_success (apply cH_));(fail_if_success (apply uR_));apply Or.inl)|(apply rn_;exact rm_;exact me_)|(apply mt_;exact me_)|(apply ob0_;first|exact obc_)|(apply And.intro<;>(intro h;have hc:=h;try simp only [bs]at h))|(intro h;(try (unfold und at h;conv at h=>whnf));try simp only [bs]at h)|(apply wr0_;exact wrc_)|(apply wg0_;exact wgc_))
  all_goals (conv=>whnf)
  all_goals rfl
 ·trivial
noncomputable def F_BG:Fact E0:=Fact.co [.agg [.un,.un,.un,.un,.un,.un,.un,.un,.lst none 6 [],.lst none 8 [],.lst none 10 [],.lst none 0 [],.lst none 0 [],.lst none 13 [],.lst none 0 [],.lst none 0 [],.un,.lst none 1 [],.lst none 16 [],.lst none 18 [],.lst none 20 [],.lst none 22 [],.lst none 24 [],.lst none 26 [],.lst none 28 [],.lst none 33 []]] ⟨6,a_Cs,by unfold FnOK;kernel_rfl,o_EG⟩
def oneB (E:List (TabT 22)) (a b:Int) (k:Nat) (_:Unit) (next:Unit→Bool):Bool :=
 bif decide ((gt 22 E k).At≤a)&&decide (a<IntKind.i64.wrap ((gt 22 E k).At+(gt 22 E k).Size))then decide (b<IntKind.i64.wrap ((gt 22 E k).At+(gt 22 E k).Size))&&decide ((gt 22 E k).At≤b)else next ()
def oneF (_:Unit):Bool:=false
def oneS (E:List (TabT 22)) (a b:Int):Bool:=lp (oneB E a b) oneF E.length 0 ()
set_option maxHeartbeats 4000000 in
@[reducible] def a_Ct:List SV→PR
 |[.agg [.str mA,.b mB,.i mC,.i mD,.i mE,.str mF,.str mG,.i mH,.lst zI 6 mI,.lst zJ 8 mJ,.lst zK 10 mK,.lst zL 0 mL,.lst zM 0 mM,.lst zN 13 mN,.lst zO 0 mO,.lst zP 0 mP,.i mQ,.lst zR 1 mR,.lst zS 16 mS,.lst zT 18 mT,.lst zU 20 mU,.lst zV 22 mV,.lst zW 24 mW,.lst zX 26 mX,.lst zY 28 mY,.lst zZ 33 mZ],.i a,.i b]=>.ok (.b (oneS mV a b))
 |_=>.no
set_option maxHeartbeats 4000000 in
theorem o_EH:FOK 10 a_Ct:=by
 intro args m ids vs hG hm hv;unfold a_Ct;split
 ·rename_i mA mB mC mD mE mF mG mH zI mI zJ mJ zK mK zL mL zM mM zN mN zO mO zP mP mQ zR mR zS mS zT mT zU mU zV mV zW mW zX mX zY mY zZ mZ a b;refine calls_fact (DB:=[]) (IL:=[]) (WL:=[]) (fn:=Proofs.Tryz.f10) rfl rfl rfl rfl rfl rfl (fun hk=>?_) m ids vs hG hm hv
  clear hG hm hv;simp only [know]at hk
  repeat' (refine bc_ fun g_=>?_;(conv at g_=>(arg 1;whnf));refine g_ ?_;clear g_;first|((fail_if_success (apply cH_));(fail_if_success (apply uR_));apply Or.inl)|(apply rn_;exact rm_;exact me_)|(apply mt_;exact me_)|(apply ob0_;first|exact obc_)|(apply And.intro<;>(intro h;have hc:=h;(try exact nc3_ hc);(try exact nc4_ hc);try simp only [bs]at h))|(intro h;(try (unfold und at h;conv at h=>whnf));try simp only [bs]at h)|(apply wr0_;exact wrc_)|(apply wg0_;exact wgc_)|((fail_if_success (fail_if_success (apply Exists.intro)));first|refine Exists.intro _ (And.intro rfl ?_)|refine Exists.intro _ (And.intro (fun _=>rfl) ?_)))
  all_goals (conv=>whnf)
  refine Or.inr (Or.inr ⟨[],[7,28,29,30,31,32,33,34,44,45,46,47],[],[],[1,2,3],[],?_⟩);conv=>whnf
  refine⟨fun(s:Int×Unit) (t:Unit)=>0≤s.1∧s.1≤mV.length∧oneS mV a b=lp (oneB mV a b) oneF (mV.length-s.1.toNat) s.1.toNat (()),fun(s:Int×Unit) (_:Unit)=>(mV.length-s.1).toNat,?_⟩
  conv=>whnf
  refine Ini.mk ⟨by(try dsimp only);omega,by(try dsimp only);omega,rfl⟩ me_ ?_
  rintro⟨(k:Int),_⟩ _ ⟨h0,h1,hS⟩
  try dsimp only at h0 h1 hS
  obtain⟨k,rfl⟩:=Int.eq_ofNat_of_zero_le (show(0:Int)≤k by omega)
  rw [Int.toNat_natCast]at hS
  repeat' (refine bc_ fun g_=>?_;(conv at g_=>(arg 1;whnf));refine g_ ?_;clear g_;first|((fail_if_success (apply cH_));(fail_if_success (apply uR_));apply Or.inl)|(apply rn_;exact rm_;exact me_)|(apply mt_;exact me_)|(apply ob0_;first|exact obc_)|(apply And.intro<;>(intro h;have hc:=h;(try exact nc3_ hc);(try exact nc4_ hc);try simp only [bs]at h))|(intro h;(try (unfold und at h;conv at h=>whnf));try simp only [bs]at h)|(apply wr0_;exact wrc_)|(apply wg0_;exact wgc_)|((fail_if_success (fail_if_success (apply Exists.intro)));first|refine Exists.intro _ (And.intro rfl ?_)|refine Exists.intro _ (And.intro (fun _=>rfl) ?_)))
  all_goals (conv=>whnf)
  all_goals first
   |((try dsimp only);refine⟨by omega,by omega,hS.trans ((lp_lt (by omega)).trans ?_)⟩;rw [show((k:Int)+1).toNat=k+1 by omega];symm;unfold oneB;(try dsimp only);all_goals exact cl_)
   |((try dsimp only);refine Eq.trans ?_ (hS.trans (lp_lt (by omega))).symm;unfold oneB;(try dsimp only);all_goals exact cl_)
   |((try dsimp only);refine Eq.trans ?_ (hS.trans (lp_z (by omega))).symm;unfold oneF;(try dsimp only);all_goals exact cl_)
 ·trivial
noncomputable def F_BH:Fact E0:=Fact.co [.agg [.un,.un,.un,.un,.un,.un,.un,.un,.lst none 6 [],.lst none 8 [],.lst none 10 [],.lst none 0 [],.lst none 0 [],.lst none 13 [],.lst none 0 [],.lst none 0 [],.un,.lst none 1 [],.lst none 16 [],.lst none 18 [],.lst none 20 [],.lst none 22 [],.lst none 24 [],.lst none 26 [],.lst none 28 [],.lst none 33 []],.un,.un] ⟨10,a_Ct,by unfold FnOK;kernel_rfl,o_EH⟩
end Go.SX
namespace Go.SX
open Go.XK Go.RowKit Go.LocateLaw
theorem prs_all {P:Nat→Bool}:∀ {n k:Nat},lp (prB P) prF n k ()=true→∀ j,k≤j→j<k+n→P j=true
 |0,_,_,_,h1,h2=>absurd h2 (by omega)
 |n+1,k,h,j,h1,h2=>by
   rw [lp]at h;unfold prB at h
   cases hp:P k with
   |false=>rw [hp]at h;cases h
   |true =>
     rw [hp]at h;rcases Nat.lt_or_ge k j with hj|hj
     ·exact prs_all h j hj (by omega)
     ·have e:j=k:=by omega
      rw [e];exact hp
theorem asc_of {n:Nat} {f:Nat→Int} (h:∀ j,0<j→j<n→f (j-1)≤f j):∀ i j,i≤j→j<n→f i≤f j:=by
 intro i j hij hj
 induction j with
 |zero =>
           have:i=0:=by omega
           rw [this];exact Int.le_refl _
 |succ j ih =>
   rcases Nat.lt_or_ge i (j+1)with h1|h1
   ·exact Int.le_trans (ih (by omega) (by omega)) (h (j+1) (by omega) hj)
   ·have:i=j+1:=by omega
    rw [this];exact Int.le_refl _
def mkA (m:TImage) (k:Nat):TMark:=gt 18 m.Info.Marks k
def lnA (m:TImage) (k:Nat):TLine:=gt 20 m.Info.Lines k
def enA (m:TImage) (k:Nat):TSpan:=gt 22 m.Info.Ends k
theorem gt_get {c:Nat} {l:List (TabT c)} {i:Nat} (h:i<l.length):gt c l i=l[i]:=by
 show l.getD i _=_;rw [List.getD_eq_getElem?_getD,List.getElem?_eq_getElem h];rfl
theorem mkA_get {m:TImage} {i:Nat} (h:i<m.Info.Marks.length):mkA m i=m.Info.Marks[i]:=gt_get (c:=18) h
theorem lnA_get {m:TImage} {i:Nat} (h:i<m.Info.Lines.length):lnA m i=m.Info.Lines[i]:=gt_get (c:=20) h
theorem enA_get {m:TImage} {i:Nat} (h:i<m.Info.Ends.length):enA m i=m.Info.Ends[i]:=gt_get (c:=22) h
structure RowsOk (m:TImage):Prop where
 marks:∀ i j,i≤j→j<m.Info.Marks.length→(mkA m i).At≤(mkA m j).At
 lines:∀ i j,i≤j→j<m.Info.Lines.length→(lnA m i).At≤(lnA m j).At
 lineAt:∀ i,i<m.Info.Lines.length→0≤(lnA m i).At∧(lnA m i).At≤1048576
 ends:∀ i,i<m.Info.Ends.length→0≤(enA m i).At∧1≤(enA m i).Size∧(enA m i).At+(enA m i).Size≤1048576
 apart:∀ i j,i<j→j<m.Info.Ends.length→(enA m i).At+(enA m i).Size≤(enA m j).At
theorem ends_of {c:Int} {E:List (TabT 22)} (hc:0≤c∧c≤1048576):∀ {n k:Nat} {b:Int},0≤b→b≤c→lp (imEnB c E) imRwF n k b=true→∀ j,k≤j→j<k+n →
   b≤(gt 22 E j).At∧1≤(gt 22 E j).Size∧(gt 22 E j).At+(gt 22 E j).Size≤c∧∀ i,k≤i→i<j→(gt 22 E i).At+(gt 22 E i).Size≤(gt 22 E j).At
 |0,_,_,_,_,_,_,h1,h2=>absurd h2 (by omega)
 |n+1,k,b,hb,hbc,h,j,h1,h2=>by
   rw [lp]at h;unfold imEnB at h
   cases hp:(imBtw (gt 22 E k).At b c&&imBtw (gt 22 E k).Size 1 (IntKind.i64.wrap (c-(gt 22 E k).At)))with
   |false=>rw [hp]at h;cases h
   |true =>
     rw [hp]at h;simp only [imBtw,Bool.and_eq_true,decide_eq_true_eq]at hp;obtain⟨⟨p1,p2⟩,p3,p4⟩:=hp;rw [wrap_id (by unfold InR;omega)]at p4
     have hk:(gt 22 E k).At+(gt 22 E k).Size≤c:=by omega
     have h':lp (imEnB c E) imRwF n (k+1) ((gt 22 E k).At+(gt 22 E k).Size)=true:=by
       rw [wrap_id (by unfold InR;omega)]at h
       exact h
     rcases Nat.lt_or_ge k j with hj|hj
     ·obtain⟨q1,q2,q3,q4⟩:=ends_of hc (by omega) hk h' j hj (by omega)
      refine⟨by omega,q2,q3,fun i hi hij=>?_⟩
      rcases Nat.lt_or_ge k i with hi'|hi'
      ·exact q4 i hi' hij
      ·have e:i=k:=by omega
       rw [e];exact q1
     ·have e:j=k:=by omega
      subst e;exact⟨p1,p3,hk,fun i h3 h4=>absurd h4 (by omega)⟩
theorem rows_ok {m:TImage} (h:imRight m=true):RowsOk m:=by
 unfold imRight at h;simp only [Bool.and_eq_true]at h;obtain⟨⟨⟨⟨⟨⟨⟨⟨hs,_⟩,_⟩,_⟩,_⟩,_⟩,_⟩,hi⟩,_⟩:=h;obtain⟨hc0,hc1⟩:=imSizes_b hs;unfold imInfo at hi;simp only [Bool.and_eq_true]at hi;obtain⟨⟨⟨⟨⟨hm,hl⟩,he⟩,_⟩,_⟩,_⟩:=hi;have am:=prs_all hm;have al:=prs_all hl;have ae:=ends_of ⟨hc0,hc1⟩ (Int.le_refl 0) hc0 he;refine⟨asc_of fun j h0 h1=>?_,asc_of fun j h0 h1=>?_,fun i hi=>?_,fun i hi=>?_,fun i j hij hj=>?_⟩
 ·have:=am j (Nat.zero_le _) (by omega)
  simp only [imMark,Bool.and_eq_true,Bool.or_eq_true,decide_eq_true_eq]at this;rcases this.2 with h3|h3
  ·omega
  ·rw [show((j:Int)-1).toNat=j-1 by omega]at h3
   exact h3
 ·have:=al j (Nat.zero_le _) (by omega)
  simp only [imLine,Bool.and_eq_true,Bool.or_eq_true,decide_eq_true_eq]at this;rcases this.2 with h3|h3
  ·omega
  ·rw [show((j:Int)-1).toNat=j-1 by omega]at h3
   exact h3
 ·have:=al i (Nat.zero_le _) (by omega)
  simp only [imLine,imBtw,Bool.and_eq_true,Bool.or_eq_true,decide_eq_true_eq]at this;obtain⟨⟨⟨_,h3,h4⟩,_⟩,_⟩:=this;rw [wrap_id (by unfold InR;omega)]at h4
  exact⟨h3,Int.le_trans h4 (by omega)⟩
 ·obtain⟨q1,q2,q3,_⟩:=ae i (Nat.zero_le _) (by rw [Nat.zero_add];exact hi)
  exact⟨q1,q2,Int.le_trans q3 hc1⟩
 ·exact(ae j (Nat.zero_le _) (by rw [Nat.zero_add];exact hj)).2.2.2 i (Nat.zero_le _) hij
theorem filter_last {α:Type} (p:α→Bool):∀ (l:List α) (i:Nat) (h:i<l.length),p l[i]=true→∃ k,∃ hk:k<l.length,i≤k∧p l[k]=true∧(l.filter p).getLast? = some l[k]
 |[],_,h,_=>absurd h (Nat.not_lt_zero _)
 |x::r,i,h,hp=>by
   have step:∀ j (hj:j<r.length),p r[j]=true→i≤j+1→∃ k,∃ hk:k<(x::r).length,i≤k∧p (x::r)[k]=true∧((x::r).filter p).getLast? = some (x::r)[k]:=fun j hj hpj hij=>by
     obtain⟨k,hk,h1,h2,h3⟩:=filter_last p r j hj hpj;refine⟨k+1,by simpa using hk,by omega,h2,?_⟩
     rw [List.filter_cons];split
     ·rw [List.getLast?_cons,h3];rfl
     ·exact h3
   cases i with
   |succ i=>exact step i (by simpa using h) hp (Nat.le_refl _)
   |zero =>
     by_cases hr:∃ j,∃ hj:j<r.length,p r[j]=true
     ·obtain⟨j,hj,hpj⟩:=hr;exact step j hj hpj (Nat.zero_le _)
     ·have hf:r.filter p=[]:=by
        rw [List.filter_eq_nil_iff];intro y hy hpy;obtain⟨j,hj,rfl⟩:=List.getElem_of_mem hy;exact hr ⟨j,hj,hpy⟩
      have hp':p x=true:=hp;refine⟨0,by simp,Nat.le_refl _,hp,?_⟩
      rw [List.filter_cons,if_pos hp',hf];rfl
section
variable {m:TImage} (R:RowsOk m)
theorem fnd_mark {s:ByteArray} {k:Nat} (hk:k<m.Info.Marks.length) (h1:(mkA m k).Kind=0) (h2:(mkA m k).Name=s):findB (infOf m) s=true∧(RowsOk m→findAt (infOf m) s≤(mkA m k).At):=by
 have hg:mkA m k=m.Info.Marks[k]:=mkA_get hk;rw [hg]at h1 h2 ⊢;have hp:fnP s (toMk m.Info.Marks[k])=true:=by unfold fnP toMk;simp [h1,h2]
 have hmem:toMk m.Info.Marks[k]∈(infOf m).marks:=List.mem_map.2 ⟨_,List.getElem_mem hk,rfl⟩
 cases hf:LocateLaw.findS (infOf m) s with
 |none =>
   have:=List.find?_eq_none.1 hf _ hmem;exact absurd hp this
 |some x =>
   refine⟨by unfold findB;rw [hf];rfl,fun R=>?_⟩
   obtain⟨_,i,hi,hx,hno⟩:=List.find?_eq_some_iff_getElem.1 hf;have hi':i<m.Info.Marks.length:=by simpa [infOf] using hi
   have hik:i≤k:=by
     rcases Nat.lt_or_ge k i with h|h
     ·have:=hno k h;rw [show(infOf m).marks[k]'(by omega)=toMk m.Info.Marks[k]by simp [infOf],hp]at this
      cases this
     ·exact h
   have e:findAt (infOf m) s=x.at_:=by unfold findAt;rw [hf]
   rw [e,← hx,show(infOf m).marks[i]=toMk m.Info.Marks[i]by simp [infOf]]
   have:=R.marks i k hik hk;rw [mkA_get hi',mkA_get hk]at this;exact this
theorem fnd_none {s:ByteArray} (h:findB (infOf m) s=false):findAt (infOf m) s=0:=by
 unfold findB at h;unfold findAt
 cases hf:LocateLaw.findS (infOf m) s with
 |none=>rfl
 |some x=>rw [hf]at h;cases h
theorem fnd_some {s:ByteArray} (h:findB (infOf m) s=true):∃ k,k<m.Info.Marks.length∧(mkA m k).Kind=0∧(mkA m k).Name=s∧(mkA m k).At=findAt (infOf m) s:=by
 unfold findB at h
 cases hf:LocateLaw.findS (infOf m) s with
 |none=>rw [hf]at h;cases h
 |some x =>
   obtain⟨hp,i,hi,hx,_⟩:=List.find?_eq_some_iff_getElem.1 hf;have hi':i<m.Info.Marks.length:=by simpa [infOf] using hi
   have e:x=toMk m.Info.Marks[i]:=by rw [← hx];simp [infOf]
   refine⟨i,hi',?_⟩;rw [mkA_get hi'];subst e;simp only [fnP,Bool.and_eq_true,decide_eq_true_eq]at hp;refine⟨hp.1,hp.2,?_⟩;unfold findAt;rw [hf];rfl
include R in
theorem fnd_off {s:ByteArray} (h:findB (infOf m) s=true) (hb:atB (infOf m) (findAt (infOf m) s)=true):(atS (infOf m) (findAt (infOf m) s)).off=0:=by
 obtain⟨k,hk,h1,_,h3⟩:=fnd_some h;generalize findAt (infOf m) s=p at *;unfold atB at hb;obtain⟨sp,hsp⟩:=Option.isSome_iff_exists.1 hb;have hin:inSp p sp=true:=List.find?_some hsp;simp only [inSp,Bool.and_eq_true,decide_eq_true_eq]at hin;rw [atS,hsp];show offS sp p (LocateLaw.markS (infOf m) sp p)=0;have hkl:k<(infOf m).marks.length:=by simpa [infOf] using hk
 have hkg:(infOf m).marks[k]=toMk (mkA m k):=by rw [mkA_get hk];simp [infOf]
 obtain⟨j,hj,hkj,hpj,hl⟩:=filter_last (mkP sp.at_ p) (infOf m).marks k hkl (by
   rw [hkg];have q1:(toMk (mkA m k)).kind=0:=h1;have q2:(toMk (mkA m k)).at_=p:=h3;simp only [mkP,Bool.and_eq_true,decide_eq_true_eq]
   exact⟨q1,by rw [q2];exact hin.1,by rw [q2];exact Int.le_refl _⟩)
 have hjl:j<m.Info.Marks.length:=by simpa [infOf] using hj
 have hjg:(infOf m).marks[j]=toMk (mkA m j):=by rw [mkA_get hjl];simp [infOf]
 unfold LocateLaw.markS;rw [hl,hjg];rw [hjg]at hpj;simp only [mkP,Bool.and_eq_true,decide_eq_true_eq]at hpj;have hpj2:(mkA m j).At≤p:=hpj.2.2;have:=R.marks k j hkj hjl;show IntKind.i64.wrap (p-(mkA m j).At)=0;have e:p-(mkA m j).At=0:=by omega
 rw [e];rfl
end
end Go.SX
