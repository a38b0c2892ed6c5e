/- A part of the proof (texts LocM). -/
import Derived.Test.YtobpljbkdffkbaaGreatP16
import Derived.Test.YtobpljbkdffkbaaGreatP30
set_option linter.all false
set_option maxRecDepth 100000
namespace Go.SX
open Go.XK Go.RowKit Go.LocateLaw
set_option maxHeartbeats 8000000 in
@[reducible] def a_Cq:List SV→PR
 |[.agg [.str mA,.b mB,.i mC,.i mD,.i mE,.str mF,.str mG,.i mH,.lst zI 6 mI,.lst zJ 8 mJ,.lst zK 10 mK,.lst zL 0 mL,.lst zM 0 mM,.lst zN 13 mN,.lst zO 0 mO,.lst zP 0 mP,.i mQ,.lst zR 1 mR,.lst zS 16 mS,.lst zT 18 mT,.lst zU 20 mU,.lst zV 22 mV,.lst zW 24 mW,.lst zX 26 mX,.lst zY 28 mY,.lst zZ 33 mZ],.str name]=>.ob (ImOk (⟨mA,mB,mC,mD,mE,mF,mG,mH,mI,mJ,mK,mL,mM,mN,mO,mP,mQ,mR,mS,⟨mT,mU,mV,mW,mX,mY⟩,mZ⟩:TImage)) (.b true)
 |_=>.no
set_option maxHeartbeats 8000000 in
theorem o_EE:FOK 4 a_Cq:=by
 intro args m ids vs hG hm hv;unfold a_Cq;split
 ·rename_i mA mB mC mD mE mF mG mH zI mI zJ mJ zK mK zL mL zM mM zN mN zO mO zP mP mQ zR mR zS mS zT mT zU mU zV mV zW mW zX mX zY mY zZ mZ name;intro hb;refine calls_fact (DB:=[F_BI,F_BG,F_AK,F_BK,F_BJ]) (IL:=[]) (WL:=[]) (fn:=Proofs.Tryz.f4) rfl rfl rfl rfl rfl rfl (fun hk=>?_) m ids vs hG hm hv
  clear hG hm hv
  repeat' (refine bc_ fun g_=>?_;(conv at g_=>(arg 1;whnf));refine g_ ?_;clear g_;first|((fail_if_success (apply cH_));(fail_if_success (apply uR_));apply Or.inl)|(apply rn_;exact rm_;exact me_)|(apply mt_;exact me_)|(apply ob0_;first|(exact fun _=>hb)|(exact hb)|(exact h60)|(exact fun _=>h60)|exact obc_)|(apply And.intro<;>(intro h;have hc:=h;(try exact nc3_ hc);(try exact nc4_ hc);try simp only [bs]at h))|(intro h;(try (unfold und at h;conv at h=>whnf));try simp only [bs]at h)|(apply wr0_;exact wrc_)|(apply wg0_;exact wgc_)|((fail_if_success (fail_if_success (apply Exists.intro)));first|refine Exists.intro _ (And.intro rfl ?_)|refine Exists.intro _ (And.intro (fun _=>rfl) ?_)))
  all_goals (conv=>whnf)
  all_goals (first|rfl|skip)
  have R:RowsOk (⟨mA,mB,mC,mD,mE,mF,mG,mH,mI,mJ,mK,mL,mM,mN,mO,mP,mQ,mR,mS,⟨mT,mU,mV,mW,mX,mY⟩,mZ⟩:TImage):=rows_ok h.2;have h60:List.length (α:=TabT 24) mW≤60:=by have:=h.1.1.2;omega
  have fm:∀ k:Nat,k<List.length (α:=TabT 18) mT→(gt 18 mT k).Kind=0→(gt 18 mT k).Name=name→findB (infOf (⟨mA,mB,mC,mD,mE,mF,mG,mH,mI,mJ,mK,mL,mM,mN,mO,mP,mQ,mR,mS,⟨mT,mU,mV,mW,mX,mY⟩,mZ⟩:TImage)) name=true∧findAt (infOf (⟨mA,mB,mC,mD,mE,mF,mG,mH,mI,mJ,mK,mL,mM,mN,mO,mP,mQ,mR,mS,⟨mT,mU,mV,mW,mX,mY⟩,mZ⟩:TImage)) name≤(gt 18 mT k).At:=fun k h1 h2 h3=>⟨(fnd_mark (m:=(⟨mA,mB,mC,mD,mE,mF,mG,mH,mI,mJ,mK,mL,mM,mN,mO,mP,mQ,mR,mS,⟨mT,mU,mV,mW,mX,mY⟩,mZ⟩:TImage)) h1 h2 h3).1,(fnd_mark (m:=(⟨mA,mB,mC,mD,mE,mF,mG,mH,mI,mJ,mK,mL,mM,mN,mO,mP,mQ,mR,mS,⟨mT,mU,mV,mW,mX,mY⟩,mZ⟩:TImage)) h1 h2 h3).2 R⟩
  have fs:findB (infOf (⟨mA,mB,mC,mD,mE,mF,mG,mH,mI,mJ,mK,mL,mM,mN,mO,mP,mQ,mR,mS,⟨mT,mU,mV,mW,mX,mY⟩,mZ⟩:TImage)) name=true→∃ k:Nat,k<List.length (α:=TabT 18) mT∧(gt 18 mT k).Kind=0∧(gt 18 mT k).Name=name:=fun h1=>(fnd_some (m:=(⟨mA,mB,mC,mD,mE,mF,mG,mH,mI,mJ,mK,mL,mM,mN,mO,mP,mQ,mR,mS,⟨mT,mU,mV,mW,mX,mY⟩,mZ⟩:TImage)) h1).imp fun k h=>⟨h.1,h.2.1,h.2.2.1⟩
  have fn:findB (infOf (⟨mA,mB,mC,mD,mE,mF,mG,mH,mI,mJ,mK,mL,mM,mN,mO,mP,mQ,mR,mS,⟨mT,mU,mV,mW,mX,mY⟩,mZ⟩:TImage)) name=false→findAt (infOf (⟨mA,mB,mC,mD,mE,mF,mG,mH,mI,mJ,mK,mL,mM,mN,mO,mP,mQ,mR,mS,⟨mT,mU,mV,mW,mX,mY⟩,mZ⟩:TImage)) name=0:=fnd_none;have fo:findB (infOf (⟨mA,mB,mC,mD,mE,mF,mG,mH,mI,mJ,mK,mL,mM,mN,mO,mP,mQ,mR,mS,⟨mT,mU,mV,mW,mX,mY⟩,mZ⟩:TImage)) name=true→atB (infOf (⟨mA,mB,mC,mD,mE,mF,mG,mH,mI,mJ,mK,mL,mM,mN,mO,mP,mQ,mR,mS,⟨mT,mU,mV,mW,mX,mY⟩,mZ⟩:TImage)) (findAt (infOf (⟨mA,mB,mC,mD,mE,mF,mG,mH,mI,mJ,mK,mL,mM,mN,mO,mP,mQ,mR,mS,⟨mT,mU,mV,mW,mX,mY⟩,mZ⟩:TImage)) name)=true→(atS (infOf (⟨mA,mB,mC,mD,mE,mF,mG,mH,mI,mJ,mK,mL,mM,mN,mO,mP,mQ,mR,mS,⟨mT,mU,mV,mW,mX,mY⟩,mZ⟩:TImage)) (findAt (infOf (⟨mA,mB,mC,mD,mE,mF,mG,mH,mI,mJ,mK,mL,mM,mN,mO,mP,mQ,mR,mS,⟨mT,mU,mV,mW,mX,mY⟩,mZ⟩:TImage)) name)).off=0:=fnd_off R;refine Or.inr (Or.inr ⟨[],[8,9],[],[],[1,2,5,6,7,64,65,66,67,68,69,79,80,81,82,83,84,85,86,87,88,89],[],?_⟩);conv=>whnf
  refine⟨fun(s:Bool×Int×Unit) (_:Unit)=>0≤s.2.1∧s.2.1≤List.length (α:=TabT 18) mT∧(s.1=true→findB (infOf (⟨mA,mB,mC,mD,mE,mF,mG,mH,mI,mJ,mK,mL,mM,mN,mO,mP,mQ,mR,mS,⟨mT,mU,mV,mW,mX,mY⟩,mZ⟩:TImage)) name=true)∧(s.1=false→∀ j:Nat,j<s.2.1→¬ ((gt 18 mT j).Kind=0∧(gt 18 mT j).Name=name)),fun(s:Bool×Int×Unit) _=>(List.length (α:=TabT 18) mT-s.2.1).toNat,?_⟩
  conv=>whnf
  refine Ini.mk ⟨by(try dsimp only);omega,by(try dsimp only);omega,fun h=>Bool.noConfusion h,fun _ j hj=>absurd hj (by(try dsimp only);omega)⟩ me_ ?_
  rintro⟨(f:Bool),(k:Int),_⟩ _ ⟨h0,h1,hA,hB⟩
  try dsimp only at h0 h1 hA hB
  obtain⟨k,rfl⟩:=Int.eq_ofNat_of_zero_le h0
  repeat' (refine bc_ fun g_=>?_;(conv at g_=>(arg 1;whnf));refine g_ ?_;clear g_;first|((fail_if_success (apply cH_));(fail_if_success (apply uR_));apply Or.inl)|(apply rn_;exact rm_;exact me_)|(apply mt_;exact me_)|(apply ob0_;first|(exact fun _=>hb)|(exact hb)|(exact h60)|(exact fun _=>h60)|exact obc_)|(apply And.intro<;>(intro h;have hc:=h;(try exact nc3_ hc);(try exact nc4_ hc);try simp only [bs]at h))|(intro h;(try (unfold und at h;conv at h=>whnf));try simp only [bs]at h)|(apply wr0_;exact wrc_)|(apply wg0_;exact wgc_)|((fail_if_success (fail_if_success (apply Exists.intro)));first|refine Exists.intro _ (And.intro rfl ?_)|refine Exists.intro _ (And.intro (fun _=>rfl) ?_)))
  all_goals (conv=>whnf)
  all_goals generalize infOf (⟨mA,mB,mC,mD,mE,mF,mG,mH,mI,mJ,mK,mL,mM,mN,mO,mP,mQ,mR,mS,⟨mT,mU,mV,mW,mX,mY⟩,mZ⟩:TImage)=J at *
  ·rename_i g1 g2 g3 g4 g5;obtain⟨e1,e2⟩:=fm k (by omega) g5.1 g5.2
   rw [e1,Bool.not_true,Bool.false_or,decide_eq_true_eq]at hc;exact absurd hc (Int.not_lt.2 e2)
  ·rename_i g1 g2 g3 g4 g5 g6;obtain⟨e1,e2⟩:=fm k (by omega) g5.1 g5.2
   (try dsimp only)
   exact⟨by omega,by omega,fun _=>e1,fun h=>Bool.noConfusion h⟩
  ·rename_i g1 g2 g3 g4
   (try dsimp only)
   refine⟨by omega,by omega,hA,fun hf j hj=>?_⟩
   rcases Nat.lt_or_ge j k with hjk|hjk
   ·exact hB hf j (by omega)
   ·have e:j=k:=by omega
    subst e;rintro⟨a,b⟩;exact g4.elim (fun h=>h a) fun h=>h b
  ·rename_i g1 g2 g3
   have e:findB J name=f:=by
     cases f with
     |true=>exact hA rfl
     |false =>
       cases hq:findB J name with
       |false=>rfl
       |true =>
         obtain⟨j,j1,j2,j3⟩:=fs hq;exact absurd ⟨j2,j3⟩ (hB rfl j (by omega))
   rw [e]at hc
   cases f with
   |true=>exact absurd hc (by simp)
   |false =>
     rw [fn e]at hc;exact absurd hc (by decide)
  ·cases hq:findB J name with
   |false=>rfl
   |true =>
     cases hb2:atB J (findAt J name)with
     |false=>rfl
     |true =>
       rw [fo hq hb2];rfl
 ·trivial
noncomputable def F_BE:Fact E0:=Fact.co [.agg [.un,.un,.un,.un,.un,.un,.un,.un,.lst none 6 [],.lst none 8 [],.lst none 10 [],.lst none 0 [],.lst none 0 [],.lst none 13 [],.lst none 0 [],.lst none 0 [],.un,.lst none 1 [],.lst none 16 [],.lst none 18 [],.lst none 20 [],.lst none 22 [],.lst none 24 [],.lst none 26 [],.lst none 28 [],.lst none 33 []],.un] ⟨4,a_Cq,by unfold FnOK;kernel_rfl,o_EE⟩
end Go.SX
