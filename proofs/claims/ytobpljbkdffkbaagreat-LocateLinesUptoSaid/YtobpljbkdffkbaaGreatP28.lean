/- A part of the proof (texts B64, B65, B66, B67, B68, B69). -/
import Derived.Test.YtobpljbkdffkbaaGreatP16
import Derived.Test.YtobpljbkdffkbaaGreatP25
import Derived.Test.YtobpljbkdffkbaaGreatP26
set_option linter.all false
set_option maxRecDepth 100000
namespace Go.SX
open Go.XK Go.RowKit
def imSizes (c d z:Int) (b t:ByteArray) (k:Int) (nm:ByteArray):Bool :=
 ((List.range (List.length (α:=TabT 0) ([c,d,z]:List Int))).all fun k=>p81 (gt 0 ([c,d,z]:List Int) k))&&decide (0≤c)&&decide (c≤d)&&decide (d≤z)&&decide (z≤1048576)&&decide ((b.size:Int)=d)&&imBtw k t.size 1048576&&imName nm
set_option maxHeartbeats 4000000 in
@[reducible] def a_Cl:List SV→PR
 |[.agg [.str mA,.b mB,.i mC,.i mD,.i mE,.str mF,.str mG,.i mH,.lst zI 6 mI,.lst zJ 8 mJ,.lst zK 10 mK,.lst zL 0 mL,.lst zM 0 mM,.lst zN 13 mN,.lst zO 0 mO,.lst zP 0 mP,.i mQ,.lst zR 1 mR,.lst zS 16 mS,.lst zT 18 mT,.lst zU 20 mU,.lst zV 22 mV,.lst zW 24 mW,.lst zX 26 mX,.lst zY 28 mY,.lst zZ 33 mZ]]=>.ob (SzB mA) (.b (imSizes mC mD mE mF mG mH mA))
 |_=>.no
set_option maxHeartbeats 4000000 in
theorem o_Dz:FOK 13 a_Cl:=by
 intro args m ids vs hG hm hv;unfold a_Cl;split
 ·rename_i mA mB mC mD mE mF mG mH zI mI zJ mJ zK mK zL mL zM mM zN mN zO mO zP mP mQ zR mR zS mS zT mT zU mU zV mV zW mW zX mX zY mY zZ mZ;intro hb;refine calls_fact (DB:=[F_AT,F_AX,F_Ap]) (IL:=[]) (WL:=[]) (fn:=Proofs.Tryz.f13) rfl rfl rfl rfl rfl rfl (fun hk=>?_) m ids vs hG hm hv
  clear hG hm hv
  repeat' (refine bc_ fun g_=>?_;(conv at g_=>(arg 1;whnf));refine g_ ?_;clear g_;first|((fail_if_success (apply cH_));(fail_if_success (apply uR_));apply Or.inl)|(apply rn_;exact rm_;exact me_)|(apply mt_;exact me_)|(apply ob0_;first|(exact hb)|(exact fun _=>hb)|exact obc_)|(apply And.intro<;>(intro h;have hc:=h;try simp only [bs]at h))|(intro h;(try (unfold und at h;conv at h=>whnf));try simp only [bs]at h)|(apply wr0_;exact wrc_)|(apply wg0_;exact wgc_))
  all_goals (conv=>whnf)
  all_goals rfl
 ·trivial
noncomputable def F_Az:Fact E0:=Fact.co [.agg [.un,.un,.un,.un,.un,.un,.un,.un,.lst none 6 [],.lst none 8 [],.lst none 10 [],.lst none 0 [],.lst none 0 [],.lst none 13 [],.lst none 0 [],.lst none 0 [],.un,.lst none 1 [],.lst none 16 [],.lst none 18 [],.lst none 20 [],.lst none 22 [],.lst none 24 [],.lst none 26 [],.lst none 28 [],.lst none 33 []]] ⟨13,a_Cl,by unfold FnOK;kernel_rfl,o_Dz⟩
end Go.SX
namespace Go.SX
open Go.XK Go.RowKit
def imNodeC (x:TPlaced):Bool:=!imBtw x.Kind 0 4 || !imName x.Sec || !imNamed x.Obj || !decide ((x.Digest.size:Int)=32)||(!decide ((x.Form.size:Int)=0)&&!decide ((x.Form.size:Int)=32)) || !imBtw x.Size 0 1048576 || !imBtw x.At 0 1048576
def imPart (c d z b k:Int):Int×Int:=(mgetT (k:=0) (v:=38) (mputT (k:=0) (v:=38) (mputT (k:=0) (v:=38) (mputT (k:=0) (v:=38) (mputT (k:=0) (v:=38) (mputT (k:=0) (v:=38) [] (0:Int) ((0,c):Int×Int)) (1:Int) ((c,d):Int×Int)) (2:Int) ((d,z):Int×Int)) (3:Int) ((0,b):Int×Int)) (4:Int) ((0,b):Int×Int)) k).getD ((0,0):Int×Int)
def imNode (c d z b:Int) (x:TPlaced):Bool:=bif imNodeC x then false else decide ((imPart c d z b x.Kind).1≤x.At)&&decide (x.At+x.Size≤(imPart c d z b x.Kind).2)&&(!decide (x.Kind=0)||decide (x.At.tmod 8=0))
set_option maxHeartbeats 4000000 in
@[reducible] def a_Ce:List SV→PR
 |[.agg [.str mA,.b mB,.i mC,.i mD,.i mE,.str mF,.str mG,.i mH,.lst zI 6 mI,.lst zJ 8 mJ,.lst zK 10 mK,.lst zL 0 mL,.lst zM 0 mM,.lst zN 13 mN,.lst zO 0 mO,.lst zP 0 mP,.i mQ,.lst zR 1 mR,.lst zS 16 mS,.lst zT 18 mT,.lst zU 20 mU,.lst zV 22 mV,.lst zW 24 mW,.lst zX 26 mX,.lst zY 28 mY,.lst zZ 33 mZ],.agg [.str xObj,.str xSec,.i xKind,.i xAt,.i xSize,.str xDigest,.str xForm]]=>.ob (SzB xSec∧SzB xObj) (.b (imNode mC mD mE mH (⟨xObj,xSec,xKind,xAt,xSize,xDigest,xForm⟩:TPlaced)))
 |_=>.no
set_option maxHeartbeats 4000000 in
theorem o_Ds:FOK 45 a_Ce:=by
 intro args m ids vs hG hm hv;unfold a_Ce;split
 ·rename_i mA mB mC mD mE mF mG mH zI mI zJ mJ zK mK zL mL zM mM zN mN zO mO zP mP mQ zR mR zS mS zT mT zU mU zV mV zW mW zX mX zY mY zZ mZ xObj xSec xKind xAt xSize xDigest xForm;intro hb;obtain⟨hb1,hb2⟩:=hb;refine calls_fact (DB:=[F_AX,F_Ap,F_Aq]) (IL:=[]) (WL:=[]) (fn:=Proofs.Tryz.f45) rfl rfl rfl rfl rfl rfl (fun hk=>?_) m ids vs hG hm hv
  clear hG hm hv
  repeat' (refine bc_ fun g_=>?_;(conv at g_=>(arg 1;whnf));refine g_ ?_;clear g_;first|((fail_if_success (apply cH_));(fail_if_success (apply uR_));apply Or.inl)|(apply rn_;exact rm_;exact me_)|(apply mt_;exact me_)|(apply ob0_;first|(exact hb1)|(exact fun _=>hb1)|(exact hb2)|(exact fun _=>hb2)|exact obc_)|(apply And.intro<;>(intro h;have hc:=h;try simp only [bs]at h))|(intro h;(try (unfold und at h;conv at h=>whnf));try simp only [bs]at h)|(apply wr0_;exact wrc_)|(apply wg0_;exact wgc_)|((fail_if_success (fail_if_success (apply Exists.intro)));first|refine Exists.intro _ (And.intro rfl ?_)|refine Exists.intro _ (And.intro (fun _=>rfl) ?_)))
  all_goals (conv=>whnf)
  all_goals (unfold imNode;first|exact eq_ct (by assumption) rfl|exact eq_cf (by assumption) rfl)
 ·trivial
noncomputable def F_As:Fact E0:=Fact.co [.agg [.un,.un,.un,.un,.un,.un,.un,.un,.lst none 6 [],.lst none 8 [],.lst none 10 [],.lst none 0 [],.lst none 0 [],.lst none 13 [],.lst none 0 [],.lst none 0 [],.un,.lst none 1 [],.lst none 16 [],.lst none 18 [],.lst none 20 [],.lst none 22 [],.lst none 24 [],.lst none 26 [],.lst none 28 [],.lst none 33 []],.agg [.un,.un,.un,.un,.un,.un,.un]] ⟨45,a_Ce,by unfold FnOK;kernel_rfl,o_Ds⟩
set_option maxHeartbeats 4000000 in
@[reducible] def a_Cg:List SV→PR
 |[.i i,.agg [.str xObj,.str xSec,.i xKind,.i xAt,.i xSize,.str xDigest,.str xForm],.fp [.str mA,.b mB,.i mC,.i mD,.i mE,.str mF,.str mG,.i mH,.lst zI 6 mI,.lst zJ 8 mJ,.lst zK 10 mK,.lst zL 0 mL,.lst zM 0 mM,.lst zN 13 mN,.lst zO 0 mO,.lst zP 0 mP,.i mQ,.lst zR 1 mR,.lst zS 16 mS,.lst zT 18 mT,.lst zU 20 mU,.lst zV 22 mV,.lst zW 24 mW,.lst zX 26 mX,.lst zY 28 mY,.lst zZ 33 mZ] 0]=>.ob (SzB xSec∧SzB xObj) (.b (imNode mC mD mE mH (⟨xObj,xSec,xKind,xAt,xSize,xDigest,xForm⟩:TPlaced)))
 |_=>.no
set_option maxHeartbeats 4000000 in
theorem o_Du:FOK 44 a_Cg:=by
 intro args m ids vs hG hm hv;unfold a_Cg;split
 ·rename_i i xObj xSec xKind xAt xSize xDigest xForm mA mB mC mD mE mF mG mH zI mI zJ mJ zK mK zL mL zM mM zN mN zO mO zP mP mQ zR mR zS mS zT mT zU mU zV mV zW mW zX mX zY mY zZ mZ;intro hb;refine calls_fact (DB:=[F_As]) (IL:=[]) (WL:=[]) (fn:=Proofs.Tryz.f44) rfl rfl rfl rfl rfl rfl (fun hk=>?_) m ids vs hG hm hv
  clear hG hm hv
  repeat' (refine bc_ fun g_=>?_;(conv at g_=>(arg 1;whnf));refine g_ ?_;clear g_;first|((fail_if_success (apply cH_));(fail_if_success (apply uR_));apply Or.inl)|(apply rn_;exact rm_;exact me_)|(apply mt_;exact me_)|(apply ob0_;first|(exact hb)|exact obc_)|(apply And.intro<;>(intro h;have hc:=h;try simp only [bs]at h))|(intro h;(try (unfold und at h;conv at h=>whnf));try simp only [bs]at h)|(apply wr0_;exact wrc_)|(apply wg0_;exact wgc_))
  all_goals (conv=>whnf)
  all_goals rfl
 ·trivial
noncomputable def F_Au:Fact E0:=Fact.co [.un,.agg [.un,.un,.un,.un,.un,.un,.un],.fp [.un,.un,.un,.un,.un,.un,.un,.un,.lst none 6 [],.lst none 8 [],.lst none 10 [],.lst none 0 [],.lst none 0 [],.lst none 13 [],.lst none 0 [],.lst none 0 [],.un,.lst none 1 [],.lst none 16 [],.lst none 18 [],.lst none 20 [],.lst none 22 [],.lst none 24 [],.lst none 26 [],.lst none 28 [],.lst none 33 []] 0] ⟨44,a_Cg,by unfold FnOK;kernel_rfl,o_Du⟩
end Go.SX
namespace Go.SX
open Go.XK Go.RowKit
def nnB (L:List (TabT 1)) (k:Nat) (m:List (TabT 1×TabT 2)) (next:List (TabT 1×TabT 2)→Bool):Bool:=bif !(imName (gt 1 L k)&&!(mgetT m (gt 1 L k)).getD false)then false else next (mputT m (gt 1 L k) true)
def nnF (_:List (TabT 1)) (_:List (TabT 1×TabT 2)):Bool:=true
def nnS (L:List (TabT 1)) (nm:ByteArray):Bool:=lp (nnB L) (nnF L) (List.length (α:=TabT 1) L) 0 (mputT (k:=1) (v:=2) [] nm true)
def imNeeds (nm:ByteArray) (L:List (TabT 1)) (v:List (TabT 16)):Bool:=decide ((List.length (α:=TabT 1) L:Int)≤64)&&vRight v&&nnS L nm
noncomputable def I_Bf:Inl E0:=Inl.of 59 Proofs.Tryz.f59 rfl rfl (by unfold FnOK;kernel_rfl)
noncomputable def I_Bk:Inl E0:=Inl.of 60 Proofs.Tryz.f60 rfl rfl (by unfold FnOK;kernel_rfl)
set_option maxHeartbeats 4000000 in
@[reducible] def a_Cd:List SV→PR
 |[.agg [.str mA,.b mB,.i mC,.i mD,.i mE,.str mF,.str mG,.i mH,.lst zI 6 mI,.lst zJ 8 mJ,.lst zK 10 mK,.lst zL 0 mL,.lst zM 0 mM,.lst zN 13 mN,.lst zO 0 mO,.lst zP 0 mP,.i mQ,.lst zR 1 mR,.lst zS 16 mS,.lst zT 18 mT,.lst zU 20 mU,.lst zV 22 mV,.lst zW 24 mW,.lst zX 26 mX,.lst zY 28 mY,.lst zZ 33 mZ]]=>.ob (vOk mS∧∀ k,k<List.length (α:=TabT 1) mR→SzB (gt 1 mR k)) (.b (imNeeds mA mR mS))
 |_=>.no
set_option maxHeartbeats 4000000 in
theorem o_Dr:FOK 19 a_Cd:=by
 intro args m ids vs hG hm hv;unfold a_Cd;split
 ·rename_i mA mB mC mD mE mF mG mH zI mI zJ mJ zK mK zL mL zM mM zN mN zO mO zP mP mQ zR mR zS mS zT mT zU mU zV mV zW mW zX mX zY mY zZ mZ;intro hb;obtain⟨hb1,hb2⟩:=hb;refine calls_fact (DB:=[F_BS,F_Ap]) (IL:=[I_Bf,I_Bk]) (WL:=[]) (fn:=Proofs.Tryz.f19) rfl rfl rfl rfl rfl rfl (fun hk=>?_) m ids vs hG hm hv
  clear hG hm hv;have hg:imNeeds mA mR mS=(decide ((List.length (α:=TabT 1) mR:Int)≤64)&&vRight mS&&nnS mR mA):=rfl;have hg2:nnS mR mA=lp (nnB mR) (nnF mR) (List.length (α:=TabT 1) mR) 0 (mputT (k:=1) (v:=2) [] mA true):=rfl;rw [hg];generalize nnS mR mA=Z at hg2;clear hg
  repeat' (refine bc_ fun g_=>?_;(conv at g_=>(arg 1;whnf));refine g_ ?_;clear g_;first|(intro bq;cases bq;rotate_left;(focus (intro hbq;exact absurd (hbq rfl) (by omega)));intro _)|((fail_if_success (apply cH_));(fail_if_success (apply uR_));apply Or.inl)|(apply rn_;exact rm_;exact me_)|(apply mt_;exact me_)|(apply ob0_;first|(exact hb1)|exact obc_|(exact of_decide_eq_true rfl))|(apply And.intro<;>(intro h;have hc:=h;(try exact nc1_ hc);(try exact nc2_ hc);try simp only [bs]at h))|(intro h;(try (unfold und at h;conv at h=>whnf));try simp only [bs]at h)|(apply wr0_;exact wrc_)|(apply wg0_;exact wgc_))
  all_goals (conv=>whnf)
  ·have hA:(decide ((List.length (α:=TabT 1) mR:Int)≤64)&&vRight mS)=true:=by assumption
   refine Or.inr (Or.inr ⟨[],[9],[],[1],[1,7,8],[],?_⟩);conv=>whnf
   refine⟨fun(s:Int×Unit) (t:List (TabT 1×TabT 2)×Unit)=>∃ k:Nat,s.1=k∧k≤List.length (α:=TabT 1) mR∧Z=lp (nnB mR) (nnF mR) (List.length (α:=TabT 1) mR-k) k t.1,fun(s:Int×Unit) _=>((List.length (α:=TabT 1) mR:Nat)-s.1).toNat,?_⟩
   conv=>whnf
   refine Ini.mk ⟨0,rfl,Nat.zero_le _,hg2⟩ me_ ?_;rintro⟨(k:Int),_⟩ ⟨(m0:List (TabT 1×TabT 2)),_⟩ ⟨k,hk1,hk2,hS⟩;replace hk1:_=(k:Int):=hk1;subst hk1;replace hk2:k≤List.length (α:=TabT 1) mR:=hk2;replace hS:Z=lp (nnB mR) (nnF mR) (List.length (α:=TabT 1) mR-k) k m0:=hS;refine gK fun K hK=>?_
   by_cases hkl:k<List.length (α:=TabT 1) mR
   ·have hd:decide ((k:Int)<(List.length (α:=TabT 1) mR:Nat))=true:=decide_eq_true (by omega)
    have hsz:=hb2 k hkl;have hS2:=hS.trans (lp_lt hkl)
    repeat' ((try refine gKe (by assumption) ?_);refine bc_ fun g_=>?_;(conv at g_=>(arg 1;whnf));refine g_ ?_;clear g_;first|(intro bq;cases bq;rotate_left;(focus (intro hbq;exact absurd (hbq rfl) (by omega)));intro _)|((fail_if_success (apply cH_));(fail_if_success (apply uR_));apply Or.inl)|(apply rn_;exact rm_;exact me_)|(apply mt_;exact me_)|(apply ob0_;first|(exact hsz)|exact obc_|(exact of_decide_eq_true rfl))|(apply And.intro<;>(intro h;have hc:=h;(try exact nc1_ hc);(try exact nc2_ hc);(try exact nc3_ hc);(try exact nc4_ hc);try simp only [bs]at h))|(intro h;(try (unfold und at h;conv at h=>whnf));try simp only [bs]at h)|(apply wr0_;exact wrc_)|(apply wg0_;exact wgc_)|refine gKe (by assumption) ?_)
    all_goals ((try refine gKe (by assumption) ?_);(conv=>whnf))
    ·have hZ:Z=false:=hS2.trans (eq_ct hc rfl).symm;rw [hA,hZ];rfl
    ·exact⟨k+1,rfl,hkl,hS2.trans (eq_cf hc rfl).symm⟩
   have hd:decide ((k:Int)<(List.length (α:=TabT 1) mR:Nat))=false:=decide_eq_false (by omega)
   have hZ:Z=true:=hS.trans (lp_z (by omega))
   repeat' ((try refine gKe (by assumption) ?_);refine bc_ fun g_=>?_;(conv at g_=>(arg 1;whnf));refine g_ ?_;clear g_;first|(intro bq;cases bq;rotate_left;(focus (intro hbq;exact absurd (hbq rfl) (by omega)));intro _)|((fail_if_success (apply cH_));(fail_if_success (apply uR_));apply Or.inl)|(apply rn_;exact rm_;exact me_)|(apply mt_;exact me_)|(apply ob0_;first|exact obc_|(exact of_decide_eq_true rfl))|(apply And.intro<;>(intro h;have hc:=h;(try exact nc1_ hc);(try exact nc2_ hc);(try exact nc3_ hc);(try exact nc4_ hc);try simp only [bs]at h))|(intro h;(try (unfold und at h;conv at h=>whnf));try simp only [bs]at h)|(apply wr0_;exact wrc_)|(apply wg0_;exact wgc_)|refine gKe (by assumption) ?_)
   all_goals ((try refine gKe (by assumption) ?_);(conv=>whnf))
   all_goals (rw [hA,hZ];try rfl)
  ·have hA:(decide ((List.length (α:=TabT 1) mR:Int)≤64)&&vRight mS)=false:=by assumption
   rw [hA];rfl
 ·trivial
noncomputable def F_Ar:Fact E0:=Fact.co [.agg [.un,.un,.un,.un,.un,.un,.un,.un,.lst none 6 [],.lst none 8 [],.lst none 10 [],.lst none 0 [],.lst none 0 [],.lst none 13 [],.lst none 0 [],.lst none 0 [],.un,.lst none 1 [],.lst none 16 [],.lst none 18 [],.lst none 20 [],.lst none 22 [],.lst none 24 [],.lst none 26 [],.lst none 28 [],.lst none 33 []]] ⟨19,a_Cd,by unfold FnOK;kernel_rfl,o_Dr⟩
end Go.SX
namespace Go.SX
open Go.XK Go.RowKit
abbrev prN (a b:ByteArray):TabT 37:=((a,b):ByteArray×ByteArray)
abbrev imA (l:List (TabT 10)) (k:Nat):TImport:=gt 10 l k
abbrev s0 (l:List (TabT 0)) (k:Nat):Int:=gt 0 l k
def iiB (l:List (TabT 10)) (S:List (TabT 0)) (c d:Int) (k:Nat) (s:List (TabT 37×TabT 2)×List (TabT 0×TabT 2)) (next:List (TabT 37×TabT 2)×List (TabT 0×TabT 2)→Bool):Bool :=
 bif (mgetT s.1 (prN (imA l k).Name (imA l k).Version)).getD false||(!decide (s0 S k = -1)&&((mgetT (k:=0) s.2 (s0 S k)).getD false || !imBtw (s0 S k) c (IntKind.i64.wrap (d-8)) || !decide ((s0 S k).tmod 8=0)))then false
 else bif !(imName (imA l k).Name&&imNamed (imA l k).Version&&imBtw (imA l k).Kind 0 2)then false
 else next (mputT s.1 (prN (imA l k).Name (imA l k).Version) true,mputT (k:=0) s.2 (s0 S k) true)
def iiF (_:List (TabT 10)) (_:List (TabT 0)) (_ _:Int) (_:List (TabT 37×TabT 2)×List (TabT 0×TabT 2)):Bool:=true
def iiS (l:List (TabT 10)) (S:List (TabT 0)) (c d:Int):Bool:=lp (iiB l S c d) (iiF l S c d) (List.length (α:=TabT 10) l) 0 ([],[])
def imImports (l:List (TabT 10)) (S:List (TabT 0)) (c d:Int):Bool:=bif decide ((4096:Int)<(List.length (α:=TabT 10) l:Nat)) || !decide ((List.length (α:=TabT 0) S:Int)=(List.length (α:=TabT 10) l:Nat))then false else iiS l S c d
noncomputable def I_Bb:Inl E0:=Inl.of 54 Proofs.Tryz.f54 rfl rfl (by unfold FnOK;kernel_rfl)
noncomputable def I_Bi:Inl E0:=Inl.of 55 Proofs.Tryz.f55 rfl rfl (by unfold FnOK;kernel_rfl)
set_option maxHeartbeats 8000000 in
@[reducible] def a_CQ:List SV→PR
 |[.agg [.str mA,.b mB,.i mC,.i mD,.i mE,.str mF,.str mG,.i mH,.lst zI 6 mI,.lst zJ 8 mJ,.lst zK 10 mK,.lst zL 0 mL,.lst zM 0 mM,.lst zN 13 mN,.lst zO 0 mO,.lst zP 0 mP,.i mQ,.lst zR 1 mR,.lst zS 16 mS,.lst zT 18 mT,.lst zU 20 mU,.lst zV 22 mV,.lst zW 24 mW,.lst zX 26 mX,.lst zY 28 mY,.lst zZ 33 mZ]]=>.ob (∀ k,k<List.length (α:=TabT 10) mK→SzB (imA mK k).Name∧SzB (imA mK k).Version) (.b (imImports mK mL mC mD))
 |_=>.no
set_option maxHeartbeats 8000000 in
theorem o_De:FOK 16 a_CQ:=by
 intro args m ids vs hG hm hv;unfold a_CQ;split
 ·rename_i mA mB mC mD mE mF mG mH zI mI zJ mJ zK mK zL mL zM mM zN mN zO mO zP mP mQ zR mR zS mS zT mT zU mU zV mV zW mW zX mX zY mY zZ mZ;intro hb;refine calls_fact (DB:=[F_AX,F_Ap,F_Aq]) (IL:=[I_Bb,I_Bi]) (WL:=[]) (fn:=Proofs.Tryz.f16) rfl rfl rfl rfl rfl rfl (fun hk=>?_) m ids vs hG hm hv
  clear hG hm hv;have hg2:iiS mK mL mC mD=lp (iiB mK mL mC mD) (iiF mK mL mC mD) (List.length (α:=TabT 10) mK) 0 ([],[]):=rfl;have hg:imImports mK mL mC mD=(bif decide ((4096:Int)<(List.length (α:=TabT 10) mK:Nat)) || !decide ((List.length (α:=TabT 0) mL:Int)=(List.length (α:=TabT 10) mK:Nat))then false else iiS mK mL mC mD):=rfl;rw [hg];generalize iiS mK mL mC mD=Z at hg2;clear hg
  repeat' (refine bc_ fun g_=>?_;(conv at g_=>(arg 1;whnf));refine g_ ?_;clear g_;first|(intro bq;cases bq;rotate_left;(focus (intro hbq;exact absurd (hbq rfl) (by omega)));intro _)|((fail_if_success (fail_if_success (apply Or.inl)));first|refine Or.inr (Or.inl (Exists.intro [0,0,0,1,3,3] (Exists.intro (.take 3 (.take 0 (.take 1 (.two 2 (.one 4 (.one 5 .done)) 4 (.take 2 (.one 5 .done)))))) (And.intro (by decide +kernel) ?_))))|refine Or.inr (Or.inl (Exists.intro [1,0,1,0,1,1,0,1,1,0,2,3,1] (Exists.intro (.take 0 (.take 2 (.take 5 (.take 7 (.take 1 (.take 3 (.take 4 (.two 6 (.take 8 (.two 9 (.one 10 (.one 11 (.take 12 .done))) 10 (.two 9 (.one 11 (.take 12 .done)) 11 (.take 9 (.take 12 .done))))) 10 (.two 6 (.take 8 (.two 9 (.one 11 (.take 12 .done)) 11 (.take 9 (.take 12 .done)))) 11 (.take 6 (.take 8 (.take 9 (.take 12 .done))))))))))))) (And.intro (by decide +kernel) ?_)))))|((fail_if_success (apply cH_));(fail_if_success (apply uR_));apply Or.inl)|(apply rn_;exact rm_;exact me_)|(apply mt_;exact me_)|(apply ob0_;first|exact obc_|(exact of_decide_eq_true rfl))|((fail_if_success (fail_if_success (apply And.intro)));first|(apply And.intro<;>(intro h;have hc:=h;(try exact nc1_ hc);(try exact nc2_ hc);try simp only [bs]at h))|refine And.intro (by kernel_rfl) ?_|(refine And.intro ?_ ?_;fail_if_success (refine Ob.mk ?_)))|(intro h;(try (unfold und at h;conv at h=>whnf));try simp only [bs]at h)|(apply wr0_;exact wrc_)|(apply wg0_;exact wgc_)|((fail_if_success (fail_if_success (apply Exists.intro)));first|refine Exists.intro _ (And.intro rfl ?_)|refine Exists.intro _ (And.intro (fun _=>rfl) ?_)))
  all_goals (conv=>whnf)
  ·exact(eq_ct (by assumption) rfl)
  have hg0:(decide ((4096:Int)<(List.length (α:=TabT 10) mK:Nat)) || !decide ((List.length (α:=TabT 0) mL:Int)=(List.length (α:=TabT 10) mK:Nat)))=false:=by assumption
  have hlen:List.length (α:=TabT 0) mL=List.length (α:=TabT 10) mK:=by omega
  refine Or.inr (Or.inr ⟨[],[9],[],[1,3],[1,7,8],[],?_⟩);conv=>whnf
  refine⟨fun(s:Int×Unit) (t:List (TabT 37×TabT 2)×(List (TabT 0×TabT 2)×Unit))=>∃ k:Nat,s.1=k∧k≤List.length (α:=TabT 10) mK∧Z=lp (iiB mK mL mC mD) (iiF mK mL mC mD) (List.length (α:=TabT 10) mK-k) k (t.1,t.2.1),fun(s:Int×Unit) _=>((List.length (α:=TabT 10) mK:Nat)-s.1).toNat,?_⟩
  conv=>whnf
  refine Ini.mk ⟨0,rfl,Nat.zero_le _,hg2⟩ me_ ?_;rintro⟨(k:Int),_⟩ ⟨(m0:List (TabT 37×TabT 2)),(m1:List (TabT 0×TabT 2)),_⟩ ⟨k,hk1,hk2,hS⟩;replace hk1:_=(k:Int):=hk1;subst hk1;replace hk2:k≤List.length (α:=TabT 10) mK:=hk2;replace hS:Z=lp (iiB mK mL mC mD) (iiF mK mL mC mD) (List.length (α:=TabT 10) mK-k) k (m0,m1):=hS;refine gK fun K hK=>?_
  by_cases hkl:k<List.length (α:=TabT 10) mK
  ·have hd:decide ((k:Int)<(List.length (α:=TabT 10) mK:Nat))=true:=decide_eq_true (by omega)
   have hsz:=hb k hkl;have hs1:=hsz.1;have hs2:=hsz.2;have hS2:=hS.trans (lp_lt hkl)
   repeat' ((try refine gKe (by assumption) ?_);refine bc_ fun g_=>?_;(conv at g_=>(arg 1;whnf));refine g_ ?_;clear g_;first|(intro bq;cases bq;rotate_left;(focus (intro hbq;exact absurd (hbq rfl) (by omega)));intro _)|((fail_if_success (fail_if_success (apply Or.inl)));first|refine Or.inr (Or.inl (Exists.intro [0,0,0,1,3,3] (Exists.intro (.take 3 (.take 0 (.take 1 (.two 2 (.one 4 (.one 5 .done)) 4 (.take 2 (.one 5 .done)))))) (And.intro (by decide +kernel) ?_))))|refine Or.inr (Or.inl (Exists.intro [1,0,1,0,1,1,0,1,1,0,2,3,1] (Exists.intro (.take 0 (.take 2 (.take 5 (.take 7 (.take 1 (.take 3 (.take 4 (.two 6 (.take 8 (.two 9 (.one 10 (.one 11 (.take 12 .done))) 10 (.two 9 (.one 11 (.take 12 .done)) 11 (.take 9 (.take 12 .done))))) 10 (.two 6 (.take 8 (.two 9 (.one 11 (.take 12 .done)) 11 (.take 9 (.take 12 .done)))) 11 (.take 6 (.take 8 (.take 9 (.take 12 .done))))))))))))) (And.intro (by decide +kernel) ?_)))))|((fail_if_success (apply cH_));(fail_if_success (apply uR_));apply Or.inl)|(apply rn_;exact rm_;exact me_)|(apply mt_;exact me_)|(apply ob0_;first|(exact hs1)|(exact hs2)|(exact fun _=>hs1)|(exact fun _=>hs2)|exact obc_|(exact of_decide_eq_true rfl))|((fail_if_success (fail_if_success (apply And.intro)));first|(apply And.intro<;>(intro h;have hc:=h;(try exact nc1_ hc);(try exact nc2_ hc);(try exact nc3_ hc);(try exact nc4_ hc);try simp only [bs]at h))|refine And.intro (by kernel_rfl) ?_|(refine And.intro ?_ ?_;fail_if_success (refine Ob.mk ?_)))|(intro h;(try (unfold und at h;conv at h=>whnf));try simp only [bs]at h)|(apply wr0_;exact wrc_)|(apply wg0_;exact wgc_)|((fail_if_success (fail_if_success (apply Exists.intro)));first|refine Exists.intro _ (And.intro rfl ?_)|refine Exists.intro _ (And.intro (fun _=>rfl) ?_))|refine gKe (by assumption) ?_)
   all_goals ((try refine gKe (by assumption) ?_);(conv=>whnf))
   all_goals first
    |exact hkl
    |(refine eq_cf hg0 ?_;refine Eq.trans ?_ hS2.symm;unfold iiB;all_goals exact cl_)
    |(refine hS2.trans ?_;symm;unfold iiB;all_goals exact cl_)
    |(refine⟨k+1,rfl,hkl,hS2.trans ?_⟩;symm;unfold iiB;all_goals exact cl_)
  have hd:decide ((k:Int)<(List.length (α:=TabT 10) mK:Nat))=false:=decide_eq_false (by omega)
  have hZ:Z=true:=hS.trans (lp_z (by omega))
  repeat' ((try refine gKe (by assumption) ?_);refine bc_ fun g_=>?_;(conv at g_=>(arg 1;whnf));refine g_ ?_;clear g_;first|(intro bq;cases bq;rotate_left;(focus (intro hbq;exact absurd (hbq rfl) (by omega)));intro _)|((fail_if_success (fail_if_success (apply Or.inl)));first|refine Or.inr (Or.inl (Exists.intro [0,0,0,1,3,3] (Exists.intro (.take 3 (.take 0 (.take 1 (.two 2 (.one 4 (.one 5 .done)) 4 (.take 2 (.one 5 .done)))))) (And.intro (by decide +kernel) ?_))))|refine Or.inr (Or.inl (Exists.intro [1,0,1,0,1,1,0,1,1,0,2,3,1] (Exists.intro (.take 0 (.take 2 (.take 5 (.take 7 (.take 1 (.take 3 (.take 4 (.two 6 (.take 8 (.two 9 (.one 10 (.one 11 (.take 12 .done))) 10 (.two 9 (.one 11 (.take 12 .done)) 11 (.take 9 (.take 12 .done))))) 10 (.two 6 (.take 8 (.two 9 (.one 11 (.take 12 .done)) 11 (.take 9 (.take 12 .done)))) 11 (.take 6 (.take 8 (.take 9 (.take 12 .done))))))))))))) (And.intro (by decide +kernel) ?_)))))|((fail_if_success (apply cH_));(fail_if_success (apply uR_));apply Or.inl)|(apply rn_;exact rm_;exact me_)|(apply mt_;exact me_)|(apply ob0_;first|exact obc_|(exact of_decide_eq_true rfl))|((fail_if_success (fail_if_success (apply And.intro)));first|(apply And.intro<;>(intro h;have hc:=h;(try exact nc1_ hc);(try exact nc2_ hc);(try exact nc3_ hc);(try exact nc4_ hc);try simp only [bs]at h))|refine And.intro (by kernel_rfl) ?_|(refine And.intro ?_ ?_;fail_if_success (refine Ob.mk ?_)))|(intro h;(try (unfold und at h;conv at h=>whnf));try simp only [bs]at h)|(apply wr0_;exact wrc_)|(apply wg0_;exact wgc_)|((fail_if_success (fail_if_success (apply Exists.intro)));first|refine Exists.intro _ (And.intro rfl ?_)|refine Exists.intro _ (And.intro (fun _=>rfl) ?_))|refine gKe (by assumption) ?_)
  all_goals ((try refine gKe (by assumption) ?_);(conv=>whnf))
  all_goals exact eq_cf hg0 hZ.symm
 ·trivial
noncomputable def F_Ad:Fact E0:=Fact.co [.agg [.un,.un,.un,.un,.un,.un,.un,.un,.lst none 6 [],.lst none 8 [],.lst none 10 [],.lst none 0 [],.lst none 0 [],.lst none 13 [],.lst none 0 [],.lst none 0 [],.un,.lst none 1 [],.lst none 16 [],.lst none 18 [],.lst none 20 [],.lst none 22 [],.lst none 24 [],.lst none 26 [],.lst none 28 [],.lst none 33 []]] ⟨16,a_CQ,by unfold FnOK;kernel_rfl,o_De⟩
end Go.SX
namespace Go.SX
open Go.XK Go.RowKit
abbrev exA (l:List (TabT 8)) (k:Nat):TExport:=gt 8 l k
def ieF (most:Int) (x:TExport) (m:List (TabT 1×TabT 2)) (next:List (TabT 1×TabT 2)→Bool):Bool:=bif !(imName x.Name&&imNamed x.Version&&imBtw x.Kind 0 2&&decide (0≤x.Size)&&imBtw x.At 0 most)then false else next m
def ieD (most:Int) (x:TExport) (m:List (TabT 1×TabT 2)) (next:List (TabT 1×TabT 2)→Bool):Bool:=bif x.Main||decide (x.Version=⟨#[]⟩)then(bif (mgetT (k:=1) m x.Name).getD false then false else ieF most x (mputT (k:=1) (v:=2) m x.Name true) next)else ieF most x m next
def ieC (l:List (TabT 8)) (most:Int) (k:Nat) (m:List (TabT 1×TabT 2)) (next:List (TabT 1×TabT 2)→Bool):Bool:=bif decide ((0:Int)<(k:Int))then(bif decide ((0:Int)≤cOr ([cmpS (exA l ((k:Int)-1).toNat).Name (exA l k).Name,cmpS (exA l ((k:Int)-1).toNat).Version (exA l k).Version]:List Int))then false else ieD most (exA l k) m next)else ieD most (exA l k) m next
def ieB (l:List (TabT 8)) (z b:Int) (k:Nat) (m:List (TabT 1×TabT 2)) (next:List (TabT 1×TabT 2)→Bool):Bool:=bif decide ((exA l k).Kind=2)then ieC l b k m next else ieC l z k m next
def ieE (_:List (TabT 8)) (_ _:Int) (_:List (TabT 1×TabT 2)):Bool:=true
def ieS (l:List (TabT 8)) (z b:Int):Bool:=lp (ieB l z b) (ieE l z b) (List.length (α:=TabT 8) l) 0 []
def imExports (l:List (TabT 8)) (z b:Int):Bool:=decide ((List.length (α:=TabT 8) l:Int)≤4096)&&ieS l z b
noncomputable def I_Ba:Inl E0:=Inl.of 49 Proofs.Tryz.f49 rfl rfl (by unfold FnOK;kernel_rfl)
noncomputable def I_Bh:Inl E0:=Inl.of 50 Proofs.Tryz.f50 rfl rfl (by unfold FnOK;kernel_rfl)
set_option maxHeartbeats 8000000 in
@[reducible] def a_CP:List SV→PR
 |[.agg [.str mA,.b mB,.i mC,.i mD,.i mE,.str mF,.str mG,.i mH,.lst zI 6 mI,.lst zJ 8 mJ,.lst zK 10 mK,.lst zL 0 mL,.lst zM 0 mM,.lst zN 13 mN,.lst zO 0 mO,.lst zP 0 mP,.i mQ,.lst zR 1 mR,.lst zS 16 mS,.lst zT 18 mT,.lst zU 20 mU,.lst zV 22 mV,.lst zW 24 mW,.lst zX 26 mX,.lst zY 28 mY,.lst zZ 33 mZ]]=>.ob (∀ k,k<List.length (α:=TabT 8) mJ→SzB (exA mJ k).Name∧SzB (exA mJ k).Version) (.b (imExports mJ mE mH))
 |_=>.no
set_option maxHeartbeats 8000000 in
theorem o_Dd:FOK 15 a_CP:=by
 intro args m ids vs hG hm hv;unfold a_CP;split
 ·rename_i mA mB mC mD mE mF mG mH zI mI zJ mJ zK mK zL mL zM mM zN mN zO mO zP mP mQ zR mR zS mS zT mT zU mU zV mV zW mW zX mX zY mY zZ mZ;intro hb;refine calls_fact (DB:=[F_AX,F_Ap,F_Aq,F_AC,F_AB]) (IL:=[I_Ba,I_Bh]) (WL:=[]) (fn:=Proofs.Tryz.f15) rfl rfl rfl rfl rfl rfl (fun hk=>?_) m ids vs hG hm hv
  clear hG hm hv;have hg2:ieS mJ mE mH=lp (ieB mJ mE mH) (ieE mJ mE mH) (List.length (α:=TabT 8) mJ) 0 []:=rfl;have hg:imExports mJ mE mH=(decide ((List.length (α:=TabT 8) mJ:Int)≤4096)&&ieS mJ mE mH):=rfl;rw [hg];generalize ieS mJ mE mH=Z at hg2;clear hg
  repeat' (refine bc_ fun g_=>?_;(conv at g_=>(arg 1;whnf));refine g_ ?_;clear g_;first|(intro bq;cases bq;rotate_left;(focus (intro hbq;exact absurd (hbq rfl) (by omega)));intro _)|((fail_if_success (apply cH_));(fail_if_success (apply uR_));apply Or.inl)|(apply rn_;exact rm_;exact me_)|(apply mt_;exact me_)|((fail_if_success (fail_if_success (apply Exists.intro)));first|(refine ⟨[1,0,1,0,0,1,0,1,0,0,2,0,1],[0,2,5,7,1,3,4,6,8,9,10,11,12],(by decide +kernel),?_⟩;(conv=>whnf);(fail_if_success (apply fa_))))|(apply ob0_;first|exact obc_|(exact of_decide_eq_true rfl))|(apply And.intro<;>(intro h;have hc:=h;(try exact nc1_ hc);(try exact nc2_ hc);try simp only [bs]at h))|(intro h;(try (unfold und at h;conv at h=>whnf));try simp only [bs]at h)|(apply wr0_;exact wrc_)|(apply wg0_;exact wgc_))
  all_goals (conv=>whnf)
  ·have hA:decide ((List.length (α:=TabT 8) mJ:Int)≤4096)=true:=by assumption
   refine Or.inr (Or.inr ⟨[],[9],[],[1],[1,7,8],[],?_⟩);conv=>whnf
   refine⟨fun(s:Int×Unit) (t:List (TabT 1×TabT 2)×Unit)=>∃ k:Nat,s.1=k∧k≤List.length (α:=TabT 8) mJ∧Z=lp (ieB mJ mE mH) (ieE mJ mE mH) (List.length (α:=TabT 8) mJ-k) k t.1,fun(s:Int×Unit) _=>((List.length (α:=TabT 8) mJ:Nat)-s.1).toNat,?_⟩
   conv=>whnf
   refine Ini.mk ⟨0,rfl,Nat.zero_le _,hg2⟩ me_ ?_;rintro⟨(k:Int),_⟩ ⟨(m0:List (TabT 1×TabT 2)),_⟩ ⟨k,hk1,hk2,hS⟩;replace hk1:_=(k:Int):=hk1;subst hk1;replace hk2:k≤List.length (α:=TabT 8) mJ:=hk2;replace hS:Z=lp (ieB mJ mE mH) (ieE mJ mE mH) (List.length (α:=TabT 8) mJ-k) k m0:=hS;refine gK fun K hK=>?_
   by_cases hkl:k<List.length (α:=TabT 8) mJ
   ·have hd:decide ((k:Int)<(List.length (α:=TabT 8) mJ:Nat))=true:=decide_eq_true (by omega)
    have hsz:=hb k hkl;have hs1:=hsz.1;have hs2:=hsz.2;have hS2:=hS.trans (lp_lt hkl)
    repeat' ((try refine gKe (by assumption) ?_);refine bc_ fun g_=>?_;(conv at g_=>(arg 1;whnf));refine g_ ?_;clear g_;first|(intro bq;cases bq;rotate_left;(focus (intro hbq;exact absurd (hbq rfl) (by omega)));intro _)|((fail_if_success (apply cH_));(fail_if_success (apply uR_));apply Or.inl)|(apply rn_;exact rm_;exact me_)|(apply mt_;exact me_)|((fail_if_success (fail_if_success (apply Exists.intro)));first|(refine ⟨[1,0,1,0,0,1,0,1,0,0,2,0,1],[0,2,5,7,1,3,4,6,8,9,10,11,12],(by decide +kernel),?_⟩;(conv=>whnf);(fail_if_success (apply fa_))))|(apply ob0_;first|(exact hs1)|(exact hs2)|(exact fun _=>hs1)|(exact fun _=>hs2)|exact obc_|(exact of_decide_eq_true rfl))|(apply And.intro<;>(intro h;have hc:=h;(try exact nc1_ hc);(try exact nc2_ hc);(try exact nc3_ hc);(try exact nc4_ hc);try simp only [bs]at h))|(intro h;(try (unfold und at h;conv at h=>whnf));try simp only [bs]at h)|(apply wr0_;exact wrc_)|(apply wg0_;exact wgc_)|refine gKe (by assumption) ?_)
    all_goals ((try refine gKe (by assumption) ?_);(conv=>whnf))
    all_goals first
     |(rw [hA,Bool.true_and];refine Eq.trans ?_ hS2.symm;unfold ieB ieC ieD ieF;all_goals exact cl_)
     |(refine⟨k+1,rfl,hkl,hS2.trans ?_⟩;symm;unfold ieB ieC ieD ieF;all_goals exact cl_)
   have hd:decide ((k:Int)<(List.length (α:=TabT 8) mJ:Nat))=false:=decide_eq_false (by omega)
   have hZ:Z=true:=hS.trans (lp_z (by omega))
   repeat' ((try refine gKe (by assumption) ?_);refine bc_ fun g_=>?_;(conv at g_=>(arg 1;whnf));refine g_ ?_;clear g_;first|(intro bq;cases bq;rotate_left;(focus (intro hbq;exact absurd (hbq rfl) (by omega)));intro _)|((fail_if_success (apply cH_));(fail_if_success (apply uR_));apply Or.inl)|(apply rn_;exact rm_;exact me_)|(apply mt_;exact me_)|((fail_if_success (fail_if_success (apply Exists.intro)));first|(refine ⟨[1,0,1,0,0,1,0,1,0,0,2,0,1],[0,2,5,7,1,3,4,6,8,9,10,11,12],(by decide +kernel),?_⟩;(conv=>whnf);(fail_if_success (apply fa_))))|(apply ob0_;first|exact obc_|(exact of_decide_eq_true rfl))|(apply And.intro<;>(intro h;have hc:=h;(try exact nc1_ hc);(try exact nc2_ hc);(try exact nc3_ hc);(try exact nc4_ hc);try simp only [bs]at h))|(intro h;(try (unfold und at h;conv at h=>whnf));try simp only [bs]at h)|(apply wr0_;exact wrc_)|(apply wg0_;exact wgc_)|refine gKe (by assumption) ?_)
   all_goals ((try refine gKe (by assumption) ?_);(conv=>whnf))
   all_goals (rw [hA,hZ];try rfl)
  ·have hA:decide ((List.length (α:=TabT 8) mJ:Int)≤4096)=false:=by assumption
   rw [hA];rfl
 ·trivial
noncomputable def F_Ac:Fact E0:=Fact.co [.agg [.un,.un,.un,.un,.un,.un,.un,.un,.lst none 6 [],.lst none 8 [],.lst none 10 [],.lst none 0 [],.lst none 0 [],.lst none 13 [],.lst none 0 [],.lst none 0 [],.un,.lst none 1 [],.lst none 16 [],.lst none 18 [],.lst none 20 [],.lst none 22 [],.lst none 24 [],.lst none 26 [],.lst none 28 [],.lst none 33 []]] ⟨15,a_CP,by unfold FnOK;kernel_rfl,o_Dd⟩
end Go.SX
namespace Go.SX
open Go.XK Go.RowKit
def imCv (c:Int) (x:TConv):Bool:=lp (prB (fun k=>imPc (gt 31 x.Pieces k))) prF x.Pieces.length 0 ()&&imName x.Sec&&imNamed x.Obj&&decide ((x.From.size:Int)=32)&&(decide (x.Code = -1)||imIns c x.Code)&&decide ((x.Pieces.length:Int)≤64)
def CvOk (l:List (TabT 33)):Prop:=∀ k,k<List.length (α:=TabT 33) l→SzB (gt 33 l k).Sec∧SzB (gt 33 l k).Obj
def imChanges (c:Int) (l:List (TabT 33)):Bool:=decide ((List.length (α:=TabT 33) l:Int)≤4096)&&lp (prB (fun k=>imCv c (gt 33 l k))) prF l.length 0 ()
set_option maxHeartbeats 4000000 in
@[reducible] def a_CM:List SV→PR
 |[.i i,.agg [.str xObj,.str xSec,.str xFrom,.lst z_xPieces 31 xPieces,.i xCode],.fp [.str mA,.b mB,.i mC,.i mD,.i mE,.str mF,.str mG,.i mH,.lst zI 6 mI,.lst zJ 8 mJ,.lst zK 10 mK,.lst zL 0 mL,.lst zM 0 mM,.lst zN 13 mN,.lst zO 0 mO,.lst zP 0 mP,.i mQ,.lst zR 1 mR,.lst zS 16 mS,.lst zT 18 mT,.lst zU 20 mU,.lst zV 22 mV,.lst zW 24 mW,.lst zX 26 mX,.lst zY 28 mY,.lst zZ 33 mZ] 0]=>.ob (SzB xSec∧SzB xObj) (.b (imCv mC (⟨xObj,xSec,xFrom,xPieces,xCode⟩:TConv)))
 |_=>.no
set_option maxHeartbeats 4000000 in
theorem o_Da:FOK 81 a_CM:=by
 intro args m ids vs hG hm hv;unfold a_CM;split
 ·rename_i i xObj xSec xFrom z_xPieces xPieces xCode mA mB mC mD mE mF mG mH zI mI zJ mJ zK mK zL mL zM mM zN mN zO mO zP mP mQ zR mR zS mS zT mT zU mU zV mV zW mW zX mX zY mY zZ mZ;intro hb;obtain⟨hb1,hb2⟩:=hb;refine calls_fact (DB:=[F_AQ,F_Ap,F_Aq,F_Ao]) (IL:=[]) (WL:=[]) (fn:=Proofs.Tryz.f81) rfl rfl rfl rfl rfl rfl (fun hk=>?_) m ids vs hG hm hv
  clear hG hm hv
  repeat' (refine bc_ fun g_=>?_;(conv at g_=>(arg 1;whnf));refine g_ ?_;clear g_;first|((fail_if_success (apply cH_));(fail_if_success (apply uR_));apply Or.inl)|(apply rn_;exact rm_;exact me_)|(apply mt_;exact me_)|(apply ob0_;first|(exact hb1)|(exact hb2)|(exact fun _=>hb1)|(exact fun _=>hb2)|exact obc_)|(apply And.intro<;>(intro h;have hc:=h;try simp only [bs]at h))|(intro h;(try (unfold und at h;conv at h=>whnf));try simp only [bs]at h)|(apply wr0_;exact wrc_)|(apply wg0_;exact wgc_))
  all_goals (conv=>whnf)
  all_goals rfl
 ·trivial
noncomputable def F_AZ:Fact E0:=Fact.co [.un,.agg [.un,.un,.un,.lst none 31 [],.un],.fp [.un,.un,.un,.un,.un,.un,.un,.un,.lst none 6 [],.lst none 8 [],.lst none 10 [],.lst none 0 [],.lst none 0 [],.lst none 13 [],.lst none 0 [],.lst none 0 [],.un,.lst none 1 [],.lst none 16 [],.lst none 18 [],.lst none 20 [],.lst none 22 [],.lst none 24 [],.lst none 26 [],.lst none 28 [],.lst none 33 []] 0] ⟨81,a_CM,by unfold FnOK;kernel_rfl,o_Da⟩
set_option maxHeartbeats 4000000 in
@[reducible] def a_CA:List SV→PR
 |[.lst z_ 33 l,.clo 81 [] [.fp [.str mA,.b mB,.i mC,.i mD,.i mE,.str mF,.str mG,.i mH,.lst zI 6 mI,.lst zJ 8 mJ,.lst zK 10 mK,.lst zL 0 mL,.lst zM 0 mM,.lst zN 13 mN,.lst zO 0 mO,.lst zP 0 mP,.i mQ,.lst zR 1 mR,.lst zS 16 mS,.lst zT 18 mT,.lst zU 20 mU,.lst zV 22 mV,.lst zW 24 mW,.lst zX 26 mX,.lst zY 28 mY,.lst zZ 33 mZ] 0]]=>.ob (CvOk l) (.b (lp (prB (fun k=>imCv mC (gt 33 l k))) prF l.length 0 ()))
 |_=>.no
set_option maxHeartbeats 4000000 in
theorem o_DO:FOK 80 a_CA:=by
 intro args m ids vs hG hm hv;unfold a_CA;split
 ·rename_i z_ l mA mB mC mD mE mF mG mH zI mI zJ mJ zK mK zL mL zM mM zN mN zO mO zP mP mQ zR mR zS mS zT mT zU mU zV mV zW mW zX mX zY mY zZ mZ;intro hb;refine calls_fact (DB:=[F_AZ]) (IL:=[]) (WL:=[]) (fn:=Proofs.Tryz.f80) rfl rfl rfl rfl rfl rfl (fun hk=>?_) m ids vs hG hm hv
  clear hG hm hv;simp only [know]at hk
  repeat' (refine bc_ fun g_=>?_;(conv at g_=>(arg 1;whnf));refine g_ ?_;clear g_;first|((fail_if_success (apply cH_));(fail_if_success (apply uR_));apply Or.inl)|(apply rn_;exact rm_;exact me_)|(apply mt_;exact me_)|(apply ob0_;first|(exact hb _ (by omega))|exact obc_)|(apply And.intro<;>(intro h;have hc:=h;try simp only [bs]at h))|(intro h;(try (unfold und at h;conv at h=>whnf));try simp only [bs]at h)|(apply wr0_;exact wrc_)|(apply wg0_;exact wgc_))
  all_goals (conv=>whnf)
  refine Or.inr (Or.inr ⟨[],[9],[],[],[1,7,8],[],?_⟩);conv=>whnf
  refine⟨fun(s:Int×Unit) (t:Unit)=>0≤s.1∧s.1≤l.length∧lp (prB (fun k=>imCv mC (gt 33 l k))) prF l.length 0 ()=lp (prB (fun k=>imCv mC (gt 33 l k))) prF (l.length-s.1.toNat) s.1.toNat (()),fun(s:Int×Unit) (_:Unit)=>(l.length-s.1).toNat,?_⟩
  conv=>whnf
  refine Ini.mk ⟨by(try dsimp only);omega,by(try dsimp only);omega,rfl⟩ me_ ?_
  rintro⟨(k:Int),_⟩ _ ⟨h0,h1,hS⟩
  try dsimp only at h0 h1 hS
  obtain⟨k,rfl⟩:=Int.eq_ofNat_of_zero_le (show(0:Int)≤k by omega)
  rw [Int.toNat_natCast]at hS
  repeat' (refine bc_ fun g_=>?_;(conv at g_=>(arg 1;whnf));refine g_ ?_;clear g_;first|((fail_if_success (apply cH_));(fail_if_success (apply uR_));apply Or.inl)|(apply rn_;exact rm_;exact me_)|(apply mt_;exact me_)|(apply ob0_;first|(exact hb _ (by omega))|exact obc_)|(apply And.intro<;>(intro h;have hc:=h;try simp only [bs]at h))|(intro h;(try (unfold und at h;conv at h=>whnf));try simp only [bs]at h)|(apply wr0_;exact wrc_)|(apply wg0_;exact wgc_))
  all_goals (conv=>whnf)
  all_goals first
   |((try dsimp only);refine⟨by omega,by omega,hS.trans ((lp_lt (by omega)).trans ?_)⟩;rw [show((k:Int)+1).toNat=k+1 by omega];symm;unfold prB;(try dsimp only);all_goals exact cl_)
   |((try dsimp only);refine Eq.trans ?_ (hS.trans (lp_lt (by omega))).symm;unfold prB;(try dsimp only);all_goals exact cl_)
   |((try dsimp only);refine Eq.trans ?_ (hS.trans (lp_z (by omega))).symm;unfold prF;(try dsimp only);all_goals exact cl_)
 ·trivial
noncomputable def F_AL:Fact E0:=Fact.co [.lst none 33 [],.clo 81 [] [.fp [.un,.un,.un,.un,.un,.un,.un,.un,.lst none 6 [],.lst none 8 [],.lst none 10 [],.lst none 0 [],.lst none 0 [],.lst none 13 [],.lst none 0 [],.lst none 0 [],.un,.lst none 1 [],.lst none 16 [],.lst none 18 [],.lst none 20 [],.lst none 22 [],.lst none 24 [],.lst none 26 [],.lst none 28 [],.lst none 33 []] 0]] ⟨80,a_CA,by unfold FnOK;kernel_rfl,o_DO⟩
set_option maxHeartbeats 4000000 in
@[reducible] def a_CL:List SV→PR
 |[.agg [.str mA,.b mB,.i mC,.i mD,.i mE,.str mF,.str mG,.i mH,.lst zI 6 mI,.lst zJ 8 mJ,.lst zK 10 mK,.lst zL 0 mL,.lst zM 0 mM,.lst zN 13 mN,.lst zO 0 mO,.lst zP 0 mP,.i mQ,.lst zR 1 mR,.lst zS 16 mS,.lst zT 18 mT,.lst zU 20 mU,.lst zV 22 mV,.lst zW 24 mW,.lst zX 26 mX,.lst zY 28 mY,.lst zZ 33 mZ]]=>.ob (CvOk mZ) (.b (imChanges mC mZ))
 |_=>.no
set_option maxHeartbeats 4000000 in
theorem o_DZ:FOK 21 a_CL:=by
 intro args m ids vs hG hm hv;unfold a_CL;split
 ·rename_i mA mB mC mD mE mF mG mH zI mI zJ mJ zK mK zL mL zM mM zN mN zO mO zP mP mQ zR mR zS mS zT mT zU mU zV mV zW mW zX mX zY mY zZ mZ;intro hb;refine calls_fact (DB:=[F_AL]) (IL:=[]) (WL:=[]) (fn:=Proofs.Tryz.f21) rfl rfl rfl rfl rfl rfl (fun hk=>?_) m ids vs hG hm hv
  clear hG hm hv
  repeat' (refine bc_ fun g_=>?_;(conv at g_=>(arg 1;whnf));refine g_ ?_;clear g_;first|((fail_if_success (apply cH_));(fail_if_success (apply uR_));apply Or.inl)|(apply rn_;exact rm_;exact me_)|(apply mt_;exact me_)|(apply ob0_;first|(exact hb)|(exact fun _=>hb)|exact obc_)|(apply And.intro<;>(intro h;have hc:=h;try simp only [bs]at h))|(intro h;(try (unfold und at h;conv at h=>whnf));try simp only [bs]at h)|(apply wr0_;exact wrc_)|(apply wg0_;exact wgc_))
  all_goals (conv=>whnf)
  all_goals rfl
 ·trivial
noncomputable def F_AY:Fact E0:=Fact.co [.agg [.un,.un,.un,.un,.un,.un,.un,.un,.lst none 6 [],.lst none 8 [],.lst none 10 [],.lst none 0 [],.lst none 0 [],.lst none 13 [],.lst none 0 [],.lst none 0 [],.un,.lst none 1 [],.lst none 16 [],.lst none 18 [],.lst none 20 [],.lst none 22 [],.lst none 24 [],.lst none 26 [],.lst none 28 [],.lst none 33 []]] ⟨21,a_CL,by unfold FnOK;kernel_rfl,o_DZ⟩
end Go.SX
