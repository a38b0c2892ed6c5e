/- A part of the proof (texts B29, B31, B32, B33, B30). -/
import Derived.Test.YtobpljbkdffkbaaGreatP16
set_option linter.all false
set_option maxRecDepth 100000
namespace Go.SX
open Go.XK Go.RowKit
def imBtw (n lo hi:Int):Bool:=decide (lo≤n)&&decide (n≤hi)
def imShort (s:ByteArray):Bool:=decide ((s.size:Int)≤64)
def imIns (c n:Int):Bool:=imBtw n 0 (IntKind.i64.wrap (c-8))&&decide (n.tmod 8=0)
@[reducible] def a_Ck:List SV→PR
 |[.str s]=>.ok (.b (imShort s))
 |_=>.no
theorem o_Dy:FOK 63 a_Ck:=by
 intro args m ids vs hG hm hv;unfold a_Ck;split
 ·rename_i s;refine calls_fact (DB:=[]) (IL:=[]) (WL:=[]) (fn:=Proofs.Tryz.f63) rfl rfl rfl rfl rfl rfl (fun hk=>?_) m ids vs hG hm hv
  clear hG hm hv
  repeat' (refine bc_ fun g_=>?_;(conv at g_=>(arg 1;whnf));refine g_ ?_;clear g_;first|((fail_if_success (apply cH_));(fail_if_success (apply uR_));apply Or.inl)|(apply rn_;exact rm_;exact me_)|(apply mt_;exact me_)|(apply ob0_;first|exact obc_)|(apply And.intro<;>(intro h;have hc:=h;try simp only [bs]at h))|(intro h;(try (unfold und at h;conv at h=>whnf));try simp only [bs]at h)|(apply wr0_;exact wrc_)|(apply wg0_;exact wgc_))
  all_goals (conv=>whnf)
  all_goals rfl
 ·trivial
noncomputable def F_Ay:Fact E0:=⟨63,a_Ck,by unfold FnOK;kernel_rfl,o_Dy⟩
@[reducible] def a_Ca:List SV→PR
 |[.agg [.str mA,.b mB,.i mC,.i mD,.i mE,.str mF,.str mG,.i mH,.lst zI 6 mI,.lst zJ 8 mJ,.lst zK 10 mK,.lst zL 0 mL,.lst zM 0 mM,.lst zN 13 mN,.lst zO 0 mO,.lst zP 0 mP,.i mQ,.lst zR 1 mR,.lst zS 16 mS,.lst zT 18 mT,.lst zU 20 mU,.lst zV 22 mV,.lst zW 24 mW,.lst zX 26 mX,.lst zY 28 mY,.lst zZ 33 mZ],.i n]=>.ok (.b (imIns mC n))
 |_=>.no
theorem o_Do:FOK 47 a_Ca:=by
 intro args m ids vs hG hm hv;unfold a_Ca;split
 ·rename_i mA mB mC mD mE mF mG mH zI mI zJ mJ zK mK zL mL zM mM zN mN zO mO zP mP mQ zR mR zS mS zT mT zU mU zV mV zW mW zX mX zY mY zZ mZ n;refine calls_fact (DB:=[F_AX]) (IL:=[]) (WL:=[]) (fn:=Proofs.Tryz.f47) rfl rfl rfl rfl rfl rfl (fun hk=>?_) m ids vs hG hm hv
  clear hG hm hv
  repeat' (refine bc_ fun g_=>?_;(conv at g_=>(arg 1;whnf));refine g_ ?_;clear g_;first|((fail_if_success (apply cH_));(fail_if_success (apply uR_));apply Or.inl)|(apply rn_;exact rm_;exact me_)|(apply mt_;exact me_)|(apply ob0_;first|exact obc_)|(apply And.intro<;>(intro h;have hc:=h;try simp only [bs]at h))|(intro h;(try (unfold und at h;conv at h=>whnf));try simp only [bs]at h)|(apply wr0_;exact wrc_)|(apply wg0_;exact wgc_)|((fail_if_success (fail_if_success (apply Exists.intro)));first|refine Exists.intro _ (And.intro rfl ?_)|refine Exists.intro _ (And.intro (fun _=>rfl) ?_)))
  all_goals (conv=>whnf)
  all_goals rfl
 ·trivial
noncomputable def F_Ao:Fact E0:=Fact.co [.agg [.un,.un,.un,.un,.un,.un,.un,.un,.lst none 6 [],.lst none 8 [],.lst none 10 [],.lst none 0 [],.lst none 0 [],.lst none 13 [],.lst none 0 [],.lst none 0 [],.un,.lst none 1 [],.lst none 16 [],.lst none 18 [],.lst none 20 [],.lst none 22 [],.lst none 24 [],.lst none 26 [],.lst none 28 [],.lst none 33 []],.un] ⟨47,a_Ca,by unfold FnOK;kernel_rfl,o_Do⟩
@[reducible] def a_Cn:List SV→PR
 |[.i i,.i n,.fp [.str mA,.b mB,.i mC,.i mD,.i mE,.str mF,.str mG,.i mH,.lst zI 6 mI,.lst zJ 8 mJ,.lst zK 10 mK,.lst zL 0 mL,.lst zM 0 mM,.lst zN 13 mN,.lst zO 0 mO,.lst zP 0 mP,.i mQ,.lst zR 1 mR,.lst zS 16 mS,.lst zT 18 mT,.lst zU 20 mU,.lst zV 22 mV,.lst zW 24 mW,.lst zX 26 mX,.lst zY 28 mY,.lst zZ 33 mZ] 0]=>.ok (.b (imIns mC n))
 |_=>.no
theorem o_EB:FOK 57 a_Cn:=by
 intro args m ids vs hG hm hv;unfold a_Cn;split
 ·rename_i i n mA mB mC mD mE mF mG mH zI mI zJ mJ zK mK zL mL zM mM zN mN zO mO zP mP mQ zR mR zS mS zT mT zU mU zV mV zW mW zX mX zY mY zZ mZ;refine calls_fact (DB:=[F_Ao]) (IL:=[]) (WL:=[]) (fn:=Proofs.Tryz.f57) rfl rfl rfl rfl rfl rfl (fun hk=>?_) m ids vs hG hm hv
  clear hG hm hv
  repeat' (refine bc_ fun g_=>?_;(conv at g_=>(arg 1;whnf));refine g_ ?_;clear g_;first|((fail_if_success (apply cH_));(fail_if_success (apply uR_));apply Or.inl)|(apply rn_;exact rm_;exact me_)|(apply mt_;exact me_)|(apply ob0_;first|exact obc_)|(apply And.intro<;>(intro h;have hc:=h;try simp only [bs]at h))|(intro h;(try (unfold und at h;conv at h=>whnf));try simp only [bs]at h)|(apply wr0_;exact wrc_)|(apply wg0_;exact wgc_))
  all_goals (conv=>whnf)
  all_goals rfl
 ·trivial
noncomputable def F_BB:Fact E0:=Fact.co [.un,.un,.fp [.un,.un,.un,.un,.un,.un,.un,.un,.lst none 6 [],.lst none 8 [],.lst none 10 [],.lst none 0 [],.lst none 0 [],.lst none 13 [],.lst none 0 [],.lst none 0 [],.un,.lst none 1 [],.lst none 16 [],.lst none 18 [],.lst none 20 [],.lst none 22 [],.lst none 24 [],.lst none 26 [],.lst none 28 [],.lst none 33 []] 0] ⟨57,a_Cn,by unfold FnOK;kernel_rfl,o_EB⟩
def imMark (z:Int) (M:List (TabT 18)) (i:Int) (x:TMark):Bool:=imShort x.Name&&(decide (x.Kind=0)||decide (x.Kind=1))&&imBtw x.At 0 z&&decide (0≤x.Size)&&(decide (i=0)||decide ((gt 18 M (i-1).toNat).At≤x.At))
def imLine (c:Int) (M:List (TabT 20)) (i:Int) (x:TLine):Bool:=decide (x.Sec=0)&&imShort x.File&&imBtw x.At 0 (IntKind.i64.wrap (c-1))&&decide (0≤x.Line)&&(decide (i=0)||decide ((gt 20 M (i-1).toNat).At≤x.At))
def imInl (x:TInline):Bool:=imShort x.Name&&imShort x.File&&decide (0≤x.Line)
def imVar (z:Int) (x:TVar):Bool:=imShort x.Name&&(decide (x.Where=1)||(decide (x.Where=0)&&imBtw x.N 0 15)||(decide (x.Where=2)&&imBtw x.N (-1) (IntKind.i64.wrap (z-1))))
def imDep (x:TDepth):Bool:=decide (0≤x.Bytes)&&decide (x.Bytes.tmod 8=0)
def imPc (x:TPiece):Bool:=imBtw x.From 0 1048576&&imBtw x.Size 0 1048576&&imBtw x.To 0 1048576
@[reducible] def a_CS:List SV→PR
 |[.i i,.agg [.str xName,.i xKind,.i xAt,.i xSize],.fp [.str mA,.b mB,.i mC,.i mD,.i mE,.str mF,.str mG,.i mH,.lst zI 6 mI,.lst zJ 8 mJ,.lst zK 10 mK,.lst zL 0 mL,.lst zM 0 mM,.lst zN 13 mN,.lst zO 0 mO,.lst zP 0 mP,.i mQ,.lst zR 1 mR,.lst zS 16 mS,.lst zT 18 mT,.lst zU 20 mU,.lst zV 22 mV,.lst zW 24 mW,.lst zX 26 mX,.lst zY 28 mY,.lst zZ 33 mZ] 0,.fp [.lst z_fMarks 18 fMarks,.lst z_fLines 20 fLines,.lst z_fEnds 22 fEnds,.lst z_fInlines 24 fInlines,.lst z_fVars 26 fVars,.lst z_fDepths 28 fDepths] 0]=>.ob (0≤i∧i<(fMarks.length:Int)) (.b (imMark mE fMarks i (⟨xName,xKind,xAt,xSize⟩:TMark)))
 |_=>.no
theorem o_Dg:FOK 62 a_CS:=by
 intro args m ids vs hG hm hv;unfold a_CS;split
 ·rename_i i xName xKind xAt xSize mA mB mC mD mE mF mG mH zI mI zJ mJ zK mK zL mL zM mM zN mN zO mO zP mP mQ zR mR zS mS zT mT zU mU zV mV zW mW zX mX zY mY zZ mZ z_fMarks fMarks z_fLines fLines z_fEnds fEnds z_fInlines fInlines z_fVars fVars z_fDepths fDepths;intro hb;refine calls_fact (DB:=[F_AX,F_Ay]) (IL:=[]) (WL:=[]) (fn:=Proofs.Tryz.f62) rfl rfl rfl rfl rfl rfl (fun hk=>?_) m ids vs hG hm hv
  clear hG hm hv
  repeat' (refine bc_ fun g_=>?_;(conv at g_=>(arg 1;whnf));refine g_ ?_;clear g_;first|((fail_if_success (apply cH_));(fail_if_success (apply uR_));apply Or.inl)|(apply rn_;exact rm_;exact me_)|(apply mt_;exact me_)|((fail_if_success (fail_if_success (apply Exists.intro)));first|(refine ⟨[1,0,0,1,1,0,1,1,1,0,1,1,1,1,1,0,1,0,0,1,1,1,0,1,1,1,1,1,1,1,0,1,1,1,1,0,1,0,1,1,1,1],[0,1,2,3,4,5,6,7,8,9,10,11,12,13,14,16,15,17,18,19,20,21,22,23,24,25,26,27,28,29,31,32,36,30,33,34,35,37,38,39,40,41],(by decide +kernel),?_⟩;(conv=>whnf);(fail_if_success (apply fa_))))|(apply ob0_;first|exact obc_|(intro hq<;>(try (conv at hq=>whnf))<;>simp only [bs]at hq<;>omega))|(apply And.intro<;>(intro h;have hc:=h;try simp only [bs]at h))|(intro h;(try (unfold und at h;conv at h=>whnf));try simp only [bs]at h)|(apply wr0_;exact wrc_)|(apply wg0_;exact wgc_)|((fail_if_success (fail_if_success (apply Exists.intro)));first|refine Exists.intro _ (And.intro rfl ?_)|refine Exists.intro _ (And.intro (fun _=>rfl) ?_)))
  all_goals (conv=>whnf)
  all_goals rfl
 ·trivial
noncomputable def F_Af:Fact E0:=Fact.co [.un,.agg [.un,.un,.un,.un],.fp [.un,.un,.un,.un,.un,.un,.un,.un,.lst none 6 [],.lst none 8 [],.lst none 10 [],.lst none 0 [],.lst none 0 [],.lst none 13 [],.lst none 0 [],.lst none 0 [],.un,.lst none 1 [],.lst none 16 [],.lst none 18 [],.lst none 20 [],.lst none 22 [],.lst none 24 [],.lst none 26 [],.lst none 28 [],.lst none 33 []] 0,.fp [.lst none 18 [],.lst none 20 [],.lst none 22 [],.lst none 24 [],.lst none 26 [],.lst none 28 []] 0] ⟨62,a_CS,by unfold FnOK;kernel_rfl,o_Dg⟩
@[reducible] def a_CT:List SV→PR
 |[.i i,.agg [.i xSec,.i xAt,.str xFile,.i xLine],.fp [.str mA,.b mB,.i mC,.i mD,.i mE,.str mF,.str mG,.i mH,.lst zI 6 mI,.lst zJ 8 mJ,.lst zK 10 mK,.lst zL 0 mL,.lst zM 0 mM,.lst zN 13 mN,.lst zO 0 mO,.lst zP 0 mP,.i mQ,.lst zR 1 mR,.lst zS 16 mS,.lst zT 18 mT,.lst zU 20 mU,.lst zV 22 mV,.lst zW 24 mW,.lst zX 26 mX,.lst zY 28 mY,.lst zZ 33 mZ] 0,.fp [.lst z_fMarks 18 fMarks,.lst z_fLines 20 fLines,.lst z_fEnds 22 fEnds,.lst z_fInlines 24 fInlines,.lst z_fVars 26 fVars,.lst z_fDepths 28 fDepths] 0]=>.ob (0≤i∧i<(fLines.length:Int)) (.b (imLine mC fLines i (⟨xSec,xAt,xFile,xLine⟩:TLine)))
 |_=>.no
theorem o_Dh:FOK 65 a_CT:=by
 intro args m ids vs hG hm hv;unfold a_CT;split
 ·rename_i i xSec xAt xFile xLine mA mB mC mD mE mF mG mH zI mI zJ mJ zK mK zL mL zM mM zN mN zO mO zP mP mQ zR mR zS mS zT mT zU mU zV mV zW mW zX mX zY mY zZ mZ z_fMarks fMarks z_fLines fLines z_fEnds fEnds z_fInlines fInlines z_fVars fVars z_fDepths fDepths;intro hb;refine calls_fact (DB:=[F_AX,F_Ay]) (IL:=[]) (WL:=[]) (fn:=Proofs.Tryz.f65) rfl rfl rfl rfl rfl rfl (fun hk=>?_) m ids vs hG hm hv
  clear hG hm hv
  repeat' (refine bc_ fun g_=>?_;(conv at g_=>(arg 1;whnf));refine g_ ?_;clear g_;first|((fail_if_success (apply cH_));(fail_if_success (apply uR_));apply Or.inl)|(apply rn_;exact rm_;exact me_)|(apply mt_;exact me_)|((fail_if_success (fail_if_success (apply Exists.intro)));first|(refine ⟨[1,0,1,1,1,0,0,1,1,1,0,1,0,1,0,1,1,1,0,1,1,1,1,1,1,1,0,1,1,1,1,0,1,0,1,1,1,1],[0,1,2,3,4,5,6,7,8,9,11,10,12,13,14,15,16,17,18,19,20,21,22,23,24,25,27,28,32,26,29,30,31,33,34,35,36,37],(by decide +kernel),?_⟩;(conv=>whnf);(fail_if_success (apply fa_))))|(apply ob0_;first|exact obc_|(intro hq<;>(try (conv at hq=>whnf))<;>simp only [bs]at hq<;>omega))|(apply And.intro<;>(intro h;have hc:=h;try simp only [bs]at h))|(intro h;(try (unfold und at h;conv at h=>whnf));try simp only [bs]at h)|(apply wr0_;exact wrc_)|(apply wg0_;exact wgc_)|((fail_if_success (fail_if_success (apply Exists.intro)));first|refine Exists.intro _ (And.intro rfl ?_)|refine Exists.intro _ (And.intro (fun _=>rfl) ?_)))
  all_goals (conv=>whnf)
  all_goals rfl
 ·trivial
noncomputable def F_Ag:Fact E0:=Fact.co [.un,.agg [.un,.un,.un,.un],.fp [.un,.un,.un,.un,.un,.un,.un,.un,.lst none 6 [],.lst none 8 [],.lst none 10 [],.lst none 0 [],.lst none 0 [],.lst none 13 [],.lst none 0 [],.lst none 0 [],.un,.lst none 1 [],.lst none 16 [],.lst none 18 [],.lst none 20 [],.lst none 22 [],.lst none 24 [],.lst none 26 [],.lst none 28 [],.lst none 33 []] 0,.fp [.lst none 18 [],.lst none 20 [],.lst none 22 [],.lst none 24 [],.lst none 26 [],.lst none 28 []] 0] ⟨65,a_CT,by unfold FnOK;kernel_rfl,o_Dh⟩
@[reducible] def a_CV:List SV→PR
 |[.i i,.agg [.i xSec,.i xFrom,.i xTo,.str xName,.str xFile,.i xLine]]=>.ok (.b (imInl (⟨xSec,xFrom,xTo,xName,xFile,xLine⟩:TInline)))
 |_=>.no
theorem o_Dj:FOK 71 a_CV:=by
 intro args m ids vs hG hm hv;unfold a_CV;split
 ·rename_i i xSec xFrom xTo xName xFile xLine;refine calls_fact (DB:=[F_AX,F_Ay]) (IL:=[]) (WL:=[]) (fn:=Proofs.Tryz.f71) rfl rfl rfl rfl rfl rfl (fun hk=>?_) m ids vs hG hm hv
  clear hG hm hv
  repeat' (refine bc_ fun g_=>?_;(conv at g_=>(arg 1;whnf));refine g_ ?_;clear g_;first|((fail_if_success (apply cH_));(fail_if_success (apply uR_));apply Or.inl)|(apply rn_;exact rm_;exact me_)|(apply mt_;exact me_)|(apply ob0_;first|exact obc_)|(apply And.intro<;>(intro h;have hc:=h;try simp only [bs]at h))|(intro h;(try (unfold und at h;conv at h=>whnf));try simp only [bs]at h)|(apply wr0_;exact wrc_)|(apply wg0_;exact wgc_)|((fail_if_success (fail_if_success (apply Exists.intro)));first|refine Exists.intro _ (And.intro rfl ?_)|refine Exists.intro _ (And.intro (fun _=>rfl) ?_)))
  all_goals (conv=>whnf)
  all_goals rfl
 ·trivial
noncomputable def F_Ai:Fact E0:=Fact.co [.un,.agg [.un,.un,.un,.un,.un,.un]] ⟨71,a_CV,by unfold FnOK;kernel_rfl,o_Dj⟩
@[reducible] def a_CX:List SV→PR
 |[.i i,.agg [.i xSec,.i xFrom,.i xTo,.str xName,.i xWhere,.i xN],.fp [.str mA,.b mB,.i mC,.i mD,.i mE,.str mF,.str mG,.i mH,.lst zI 6 mI,.lst zJ 8 mJ,.lst zK 10 mK,.lst zL 0 mL,.lst zM 0 mM,.lst zN 13 mN,.lst zO 0 mO,.lst zP 0 mP,.i mQ,.lst zR 1 mR,.lst zS 16 mS,.lst zT 18 mT,.lst zU 20 mU,.lst zV 22 mV,.lst zW 24 mW,.lst zX 26 mX,.lst zY 28 mY,.lst zZ 33 mZ] 0]=>.ok (.b (imVar mE (⟨xSec,xFrom,xTo,xName,xWhere,xN⟩:TVar)))
 |_=>.no
theorem o_Dl:FOK 75 a_CX:=by
 intro args m ids vs hG hm hv;unfold a_CX;split
 ·rename_i i xSec xFrom xTo xName xWhere xN mA mB mC mD mE mF mG mH zI mI zJ mJ zK mK zL mL zM mM zN mN zO mO zP mP mQ zR mR zS mS zT mT zU mU zV mV zW mW zX mX zY mY zZ mZ;refine calls_fact (DB:=[F_AX,F_Ay]) (IL:=[]) (WL:=[]) (fn:=Proofs.Tryz.f75) rfl rfl rfl rfl rfl rfl (fun hk=>?_) m ids vs hG hm hv
  clear hG hm hv
  repeat' (refine bc_ fun g_=>?_;(conv at g_=>(arg 1;whnf));refine g_ ?_;clear g_;first|((fail_if_success (apply cH_));(fail_if_success (apply uR_));apply Or.inl)|(apply rn_;exact rm_;exact me_)|(apply mt_;exact me_)|(apply ob0_;first|exact obc_)|(apply And.intro<;>(intro h;have hc:=h;try simp only [bs]at h))|(intro h;(try (unfold und at h;conv at h=>whnf));try simp only [bs]at h)|(apply wr0_;exact wrc_)|(apply wg0_;exact wgc_)|((fail_if_success (fail_if_success (apply Exists.intro)));first|refine Exists.intro _ (And.intro rfl ?_)|refine Exists.intro _ (And.intro (fun _=>rfl) ?_)))
  all_goals (conv=>whnf)
  all_goals rfl
 ·trivial
noncomputable def F_Ak:Fact E0:=Fact.co [.un,.agg [.un,.un,.un,.un,.un,.un],.fp [.un,.un,.un,.un,.un,.un,.un,.un,.lst none 6 [],.lst none 8 [],.lst none 10 [],.lst none 0 [],.lst none 0 [],.lst none 13 [],.lst none 0 [],.lst none 0 [],.un,.lst none 1 [],.lst none 16 [],.lst none 18 [],.lst none 20 [],.lst none 22 [],.lst none 24 [],.lst none 26 [],.lst none 28 [],.lst none 33 []] 0] ⟨75,a_CX,by unfold FnOK;kernel_rfl,o_Dl⟩
@[reducible] def a_CZ:List SV→PR
 |[.i i,.agg [.i xSec,.i xFrom,.i xTo,.i xBytes]]=>.ok (.b (imDep (⟨xSec,xFrom,xTo,xBytes⟩:TDepth)))
 |_=>.no
theorem o_Dn:FOK 79 a_CZ:=by
 intro args m ids vs hG hm hv;unfold a_CZ;split
 ·rename_i i xSec xFrom xTo xBytes;refine calls_fact (DB:=[F_AX,F_Ay]) (IL:=[]) (WL:=[]) (fn:=Proofs.Tryz.f79) rfl rfl rfl rfl rfl rfl (fun hk=>?_) m ids vs hG hm hv
  clear hG hm hv
  repeat' (refine bc_ fun g_=>?_;(conv at g_=>(arg 1;whnf));refine g_ ?_;clear g_;first|((fail_if_success (apply cH_));(fail_if_success (apply uR_));apply Or.inl)|(apply rn_;exact rm_;exact me_)|(apply mt_;exact me_)|(apply ob0_;first|exact obc_)|(apply And.intro<;>(intro h;have hc:=h;try simp only [bs]at h))|(intro h;(try (unfold und at h;conv at h=>whnf));try simp only [bs]at h)|(apply wr0_;exact wrc_)|(apply wg0_;exact wgc_)|((fail_if_success (fail_if_success (apply Exists.intro)));first|refine Exists.intro _ (And.intro rfl ?_)|refine Exists.intro _ (And.intro (fun _=>rfl) ?_)))
  all_goals (conv=>whnf)
  all_goals rfl
 ·trivial
noncomputable def F_Am:Fact E0:=Fact.co [.un,.agg [.un,.un,.un,.un]] ⟨79,a_CZ,by unfold FnOK;kernel_rfl,o_Dn⟩
@[reducible] def a_CN:List SV→PR
 |[.i i,.agg [.i xFrom,.i xSize,.i xTo]]=>.ok (.b (imPc (⟨xFrom,xSize,xTo⟩:TPiece)))
 |_=>.no
theorem o_Db:FOK 83 a_CN:=by
 intro args m ids vs hG hm hv;unfold a_CN;split
 ·rename_i i xFrom xSize xTo;refine calls_fact (DB:=[F_AX,F_Ay]) (IL:=[]) (WL:=[]) (fn:=Proofs.Tryz.f83) rfl rfl rfl rfl rfl rfl (fun hk=>?_) m ids vs hG hm hv
  clear hG hm hv
  repeat' (refine bc_ fun g_=>?_;(conv at g_=>(arg 1;whnf));refine g_ ?_;clear g_;first|((fail_if_success (apply cH_));(fail_if_success (apply uR_));apply Or.inl)|(apply rn_;exact rm_;exact me_)|(apply mt_;exact me_)|(apply ob0_;first|exact obc_)|(apply And.intro<;>(intro h;have hc:=h;try simp only [bs]at h))|(intro h;(try (unfold und at h;conv at h=>whnf));try simp only [bs]at h)|(apply wr0_;exact wrc_)|(apply wg0_;exact wgc_)|((fail_if_success (fail_if_success (apply Exists.intro)));first|refine Exists.intro _ (And.intro rfl ?_)|refine Exists.intro _ (And.intro (fun _=>rfl) ?_)))
  all_goals (conv=>whnf)
  all_goals rfl
 ·trivial
noncomputable def F_Aa:Fact E0:=Fact.co [.un,.agg [.un,.un,.un]] ⟨83,a_CN,by unfold FnOK;kernel_rfl,o_Db⟩
set_option maxHeartbeats 2000000 in
@[reducible] def a_CE:List SV→PR
 |[.lst z_ 18 l,.clo 62 [] [.fp [.str mA,.b mB,.i mC,.i mD,.i mE,.str mF,.str mG,.i mH,.lst zI 6 mI,.lst zJ 8 mJ,.lst zK 10 mK,.lst zL 0 mL,.lst zM 0 mM,.lst zN 13 mN,.lst zO 0 mO,.lst zP 0 mP,.i mQ,.lst zR 1 mR,.lst zS 16 mS,.lst zT 18 mT,.lst zU 20 mU,.lst zV 22 mV,.lst zW 24 mW,.lst zX 26 mX,.lst zY 28 mY,.lst zZ 33 mZ] 0,.fp [.lst z_fMarks 18 fMarks,.lst z_fLines 20 fLines,.lst z_fEnds 22 fEnds,.lst z_fInlines 24 fInlines,.lst z_fVars 26 fVars,.lst z_fDepths 28 fDepths] 0]]=>.ob (l.length≤fMarks.length) (.b (lp (prB (fun k=>imMark mE fMarks k (gt 18 l k))) prF l.length 0 ()))
 |_=>.no
set_option maxHeartbeats 2000000 in
theorem o_DS:FOK 61 a_CE:=by
 intro args m ids vs hG hm hv;unfold a_CE;split
 ·rename_i z_ l mA mB mC mD mE mF mG mH zI mI zJ mJ zK mK zL mL zM mM zN mN zO mO zP mP mQ zR mR zS mS zT mT zU mU zV mV zW mW zX mX zY mY zZ mZ z_fMarks fMarks z_fLines fLines z_fEnds fEnds z_fInlines fInlines z_fVars fVars z_fDepths fDepths;intro hb;refine calls_fact (DB:=[F_Af]) (IL:=[]) (WL:=[]) (fn:=Proofs.Tryz.f61) rfl rfl rfl rfl rfl rfl (fun hk=>?_) m ids vs hG hm hv
  clear hG hm hv;simp only [know]at hk
  repeat' (refine bc_ fun g_=>?_;(conv at g_=>(arg 1;whnf));refine g_ ?_;clear g_;first|((fail_if_success (apply cH_));(fail_if_success (apply uR_));apply Or.inl)|(apply rn_;exact rm_;exact me_)|(apply mt_;exact me_)|(apply ob0_;first|(exact⟨by omega,by omega⟩)|exact obc_|(omega))|(apply And.intro<;>(intro h;have hc:=h;try simp only [bs]at h))|(intro h;(try (unfold und at h;conv at h=>whnf));try simp only [bs]at h)|(apply wr0_;exact wrc_)|(apply wg0_;exact wgc_))
  all_goals (conv=>whnf)
  refine Or.inr (Or.inr ⟨[],[9],[],[],[1,7,8],[],?_⟩);conv=>whnf
  refine⟨fun(s:Int×Unit) (t:Unit)=>0≤s.1∧s.1≤l.length∧lp (prB (fun k=>imMark mE fMarks k (gt 18 l k))) prF l.length 0 ()=lp (prB (fun k=>imMark mE fMarks k (gt 18 l k))) prF (l.length-s.1.toNat) s.1.toNat (()),fun(s:Int×Unit) (_:Unit)=>(l.length-s.1).toNat,?_⟩
  conv=>whnf
  refine Ini.mk ⟨by(try dsimp only);omega,by(try dsimp only);omega,rfl⟩ me_ ?_
  rintro⟨(k:Int),_⟩ _ ⟨h0,h1,hS⟩
  try dsimp only at h0 h1 hS
  obtain⟨k,rfl⟩:=Int.eq_ofNat_of_zero_le (show(0:Int)≤k by omega)
  rw [Int.toNat_natCast]at hS
  repeat' (refine bc_ fun g_=>?_;(conv at g_=>(arg 1;whnf));refine g_ ?_;clear g_;first|((fail_if_success (apply cH_));(fail_if_success (apply uR_));apply Or.inl)|(apply rn_;exact rm_;exact me_)|(apply mt_;exact me_)|(apply ob0_;first|(exact⟨by omega,by omega⟩)|exact obc_|(omega))|(apply And.intro<;>(intro h;have hc:=h;try simp only [bs]at h))|(intro h;(try (unfold und at h;conv at h=>whnf));try simp only [bs]at h)|(apply wr0_;exact wrc_)|(apply wg0_;exact wgc_))
  all_goals (conv=>whnf)
  all_goals first
   |((try dsimp only);refine⟨by omega,by omega,hS.trans ((lp_lt (by omega)).trans ?_)⟩;rw [show((k:Int)+1).toNat=k+1 by omega];symm;unfold prB;(try dsimp only);all_goals exact cl_)
   |((try dsimp only);refine Eq.trans ?_ (hS.trans (lp_lt (by omega))).symm;unfold prB;(try dsimp only);all_goals exact cl_)
   |((try dsimp only);refine Eq.trans ?_ (hS.trans (lp_z (by omega))).symm;unfold prF;(try dsimp only);all_goals exact cl_)
 ·trivial
noncomputable def F_AP:Fact E0:=Fact.co [.lst none 18 [],.clo 62 [] [.fp [.un,.un,.un,.un,.un,.un,.un,.un,.lst none 6 [],.lst none 8 [],.lst none 10 [],.lst none 0 [],.lst none 0 [],.lst none 13 [],.lst none 0 [],.lst none 0 [],.un,.lst none 1 [],.lst none 16 [],.lst none 18 [],.lst none 20 [],.lst none 22 [],.lst none 24 [],.lst none 26 [],.lst none 28 [],.lst none 33 []] 0,.fp [.lst none 18 [],.lst none 20 [],.lst none 22 [],.lst none 24 [],.lst none 26 [],.lst none 28 []] 0]] ⟨61,a_CE,by unfold FnOK;kernel_rfl,o_DS⟩
set_option maxHeartbeats 2000000 in
@[reducible] def a_CD:List SV→PR
 |[.lst z_ 20 l,.clo 65 [] [.fp [.str mA,.b mB,.i mC,.i mD,.i mE,.str mF,.str mG,.i mH,.lst zI 6 mI,.lst zJ 8 mJ,.lst zK 10 mK,.lst zL 0 mL,.lst zM 0 mM,.lst zN 13 mN,.lst zO 0 mO,.lst zP 0 mP,.i mQ,.lst zR 1 mR,.lst zS 16 mS,.lst zT 18 mT,.lst zU 20 mU,.lst zV 22 mV,.lst zW 24 mW,.lst zX 26 mX,.lst zY 28 mY,.lst zZ 33 mZ] 0,.fp [.lst z_fMarks 18 fMarks,.lst z_fLines 20 fLines,.lst z_fEnds 22 fEnds,.lst z_fInlines 24 fInlines,.lst z_fVars 26 fVars,.lst z_fDepths 28 fDepths] 0]]=>.ob (l.length≤fLines.length) (.b (lp (prB (fun k=>imLine mC fLines k (gt 20 l k))) prF l.length 0 ()))
 |_=>.no
set_option maxHeartbeats 2000000 in
theorem o_DR:FOK 64 a_CD:=by
 intro args m ids vs hG hm hv;unfold a_CD;split
 ·rename_i z_ l mA mB mC mD mE mF mG mH zI mI zJ mJ zK mK zL mL zM mM zN mN zO mO zP mP mQ zR mR zS mS zT mT zU mU zV mV zW mW zX mX zY mY zZ mZ z_fMarks fMarks z_fLines fLines z_fEnds fEnds z_fInlines fInlines z_fVars fVars z_fDepths fDepths;intro hb;refine calls_fact (DB:=[F_Ag]) (IL:=[]) (WL:=[]) (fn:=Proofs.Tryz.f64) rfl rfl rfl rfl rfl rfl (fun hk=>?_) m ids vs hG hm hv
  clear hG hm hv;simp only [know]at hk
  repeat' (refine bc_ fun g_=>?_;(conv at g_=>(arg 1;whnf));refine g_ ?_;clear g_;first|((fail_if_success (apply cH_));(fail_if_success (apply uR_));apply Or.inl)|(apply rn_;exact rm_;exact me_)|(apply mt_;exact me_)|(apply ob0_;first|(exact⟨by omega,by omega⟩)|exact obc_|(omega))|(apply And.intro<;>(intro h;have hc:=h;try simp only [bs]at h))|(intro h;(try (unfold und at h;conv at h=>whnf));try simp only [bs]at h)|(apply wr0_;exact wrc_)|(apply wg0_;exact wgc_))
  all_goals (conv=>whnf)
  refine Or.inr (Or.inr ⟨[],[9],[],[],[1,7,8],[],?_⟩);conv=>whnf
  refine⟨fun(s:Int×Unit) (t:Unit)=>0≤s.1∧s.1≤l.length∧lp (prB (fun k=>imLine mC fLines k (gt 20 l k))) prF l.length 0 ()=lp (prB (fun k=>imLine mC fLines k (gt 20 l k))) prF (l.length-s.1.toNat) s.1.toNat (()),fun(s:Int×Unit) (_:Unit)=>(l.length-s.1).toNat,?_⟩
  conv=>whnf
  refine Ini.mk ⟨by(try dsimp only);omega,by(try dsimp only);omega,rfl⟩ me_ ?_
  rintro⟨(k:Int),_⟩ _ ⟨h0,h1,hS⟩
  try dsimp only at h0 h1 hS
  obtain⟨k,rfl⟩:=Int.eq_ofNat_of_zero_le (show(0:Int)≤k by omega)
  rw [Int.toNat_natCast]at hS
  repeat' (refine bc_ fun g_=>?_;(conv at g_=>(arg 1;whnf));refine g_ ?_;clear g_;first|((fail_if_success (apply cH_));(fail_if_success (apply uR_));apply Or.inl)|(apply rn_;exact rm_;exact me_)|(apply mt_;exact me_)|(apply ob0_;first|(exact⟨by omega,by omega⟩)|exact obc_|(omega))|(apply And.intro<;>(intro h;have hc:=h;try simp only [bs]at h))|(intro h;(try (unfold und at h;conv at h=>whnf));try simp only [bs]at h)|(apply wr0_;exact wrc_)|(apply wg0_;exact wgc_))
  all_goals (conv=>whnf)
  all_goals first
   |((try dsimp only);refine⟨by omega,by omega,hS.trans ((lp_lt (by omega)).trans ?_)⟩;rw [show((k:Int)+1).toNat=k+1 by omega];symm;unfold prB;(try dsimp only);all_goals exact cl_)
   |((try dsimp only);refine Eq.trans ?_ (hS.trans (lp_lt (by omega))).symm;unfold prB;(try dsimp only);all_goals exact cl_)
   |((try dsimp only);refine Eq.trans ?_ (hS.trans (lp_z (by omega))).symm;unfold prF;(try dsimp only);all_goals exact cl_)
 ·trivial
noncomputable def F_AO:Fact E0:=Fact.co [.lst none 20 [],.clo 65 [] [.fp [.un,.un,.un,.un,.un,.un,.un,.un,.lst none 6 [],.lst none 8 [],.lst none 10 [],.lst none 0 [],.lst none 0 [],.lst none 13 [],.lst none 0 [],.lst none 0 [],.un,.lst none 1 [],.lst none 16 [],.lst none 18 [],.lst none 20 [],.lst none 22 [],.lst none 24 [],.lst none 26 [],.lst none 28 [],.lst none 33 []] 0,.fp [.lst none 18 [],.lst none 20 [],.lst none 22 [],.lst none 24 [],.lst none 26 [],.lst none 28 []] 0]] ⟨64,a_CD,by unfold FnOK;kernel_rfl,o_DR⟩
set_option maxHeartbeats 2000000 in
@[reducible] def a_CC:List SV→PR
 |[.lst z_ 24 l,.clo 71 [] []]=>.ok (.b (lp (prB (fun k=>imInl (gt 24 l k))) prF l.length 0 ()))
 |_=>.no
set_option maxHeartbeats 2000000 in
theorem o_DQ:FOK 70 a_CC:=by
 intro args m ids vs hG hm hv;unfold a_CC;split
 ·rename_i z_ l;refine calls_fact (DB:=[F_Ai]) (IL:=[]) (WL:=[]) (fn:=Proofs.Tryz.f70) rfl rfl rfl rfl rfl rfl (fun hk=>?_) m ids vs hG hm hv
  clear hG hm hv;simp only [know]at hk
  repeat' (refine bc_ fun g_=>?_;(conv at g_=>(arg 1;whnf));refine g_ ?_;clear g_;first|((fail_if_success (apply cH_));(fail_if_success (apply uR_));apply Or.inl)|(apply rn_;exact rm_;exact me_)|(apply mt_;exact me_)|(apply ob0_;first|exact obc_)|(apply And.intro<;>(intro h;have hc:=h;try simp only [bs]at h))|(intro h;(try (unfold und at h;conv at h=>whnf));try simp only [bs]at h)|(apply wr0_;exact wrc_)|(apply wg0_;exact wgc_))
  all_goals (conv=>whnf)
  refine Or.inr (Or.inr ⟨[],[9],[],[],[1,7,8],[],?_⟩);conv=>whnf
  refine⟨fun(s:Int×Unit) (t:Unit)=>0≤s.1∧s.1≤l.length∧lp (prB (fun k=>imInl (gt 24 l k))) prF l.length 0 ()=lp (prB (fun k=>imInl (gt 24 l k))) prF (l.length-s.1.toNat) s.1.toNat (()),fun(s:Int×Unit) (_:Unit)=>(l.length-s.1).toNat,?_⟩
  conv=>whnf
  refine Ini.mk ⟨by(try dsimp only);omega,by(try dsimp only);omega,rfl⟩ me_ ?_
  rintro⟨(k:Int),_⟩ _ ⟨h0,h1,hS⟩
  try dsimp only at h0 h1 hS
  obtain⟨k,rfl⟩:=Int.eq_ofNat_of_zero_le (show(0:Int)≤k by omega)
  rw [Int.toNat_natCast]at hS
  repeat' (refine bc_ fun g_=>?_;(conv at g_=>(arg 1;whnf));refine g_ ?_;clear g_;first|((fail_if_success (apply cH_));(fail_if_success (apply uR_));apply Or.inl)|(apply rn_;exact rm_;exact me_)|(apply mt_;exact me_)|(apply ob0_;first|exact obc_)|(apply And.intro<;>(intro h;have hc:=h;try simp only [bs]at h))|(intro h;(try (unfold und at h;conv at h=>whnf));try simp only [bs]at h)|(apply wr0_;exact wrc_)|(apply wg0_;exact wgc_))
  all_goals (conv=>whnf)
  all_goals first
   |((try dsimp only);refine⟨by omega,by omega,hS.trans ((lp_lt (by omega)).trans ?_)⟩;rw [show((k:Int)+1).toNat=k+1 by omega];symm;unfold prB;(try dsimp only);all_goals exact cl_)
   |((try dsimp only);refine Eq.trans ?_ (hS.trans (lp_lt (by omega))).symm;unfold prB;(try dsimp only);all_goals exact cl_)
   |((try dsimp only);refine Eq.trans ?_ (hS.trans (lp_z (by omega))).symm;unfold prF;(try dsimp only);all_goals exact cl_)
 ·trivial
noncomputable def F_AN:Fact E0:=Fact.co [.lst none 24 [],.clo 71 [] []] ⟨70,a_CC,by unfold FnOK;kernel_rfl,o_DQ⟩
set_option maxHeartbeats 2000000 in
@[reducible] def a_CH:List SV→PR
 |[.lst z_ 26 l,.clo 75 [] [.fp [.str mA,.b mB,.i mC,.i mD,.i mE,.str mF,.str mG,.i mH,.lst zI 6 mI,.lst zJ 8 mJ,.lst zK 10 mK,.lst zL 0 mL,.lst zM 0 mM,.lst zN 13 mN,.lst zO 0 mO,.lst zP 0 mP,.i mQ,.lst zR 1 mR,.lst zS 16 mS,.lst zT 18 mT,.lst zU 20 mU,.lst zV 22 mV,.lst zW 24 mW,.lst zX 26 mX,.lst zY 28 mY,.lst zZ 33 mZ] 0]]=>.ok (.b (lp (prB (fun k=>imVar mE (gt 26 l k))) prF l.length 0 ()))
 |_=>.no
set_option maxHeartbeats 2000000 in
theorem o_DV:FOK 74 a_CH:=by
 intro args m ids vs hG hm hv;unfold a_CH;split
 ·rename_i z_ l mA mB mC mD mE mF mG mH zI mI zJ mJ zK mK zL mL zM mM zN mN zO mO zP mP mQ zR mR zS mS zT mT zU mU zV mV zW mW zX mX zY mY zZ mZ;refine calls_fact (DB:=[F_Ak]) (IL:=[]) (WL:=[]) (fn:=Proofs.Tryz.f74) rfl rfl rfl rfl rfl rfl (fun hk=>?_) m ids vs hG hm hv
  clear hG hm hv;simp only [know]at hk
  repeat' (refine bc_ fun g_=>?_;(conv at g_=>(arg 1;whnf));refine g_ ?_;clear g_;first|((fail_if_success (apply cH_));(fail_if_success (apply uR_));apply Or.inl)|(apply rn_;exact rm_;exact me_)|(apply mt_;exact me_)|(apply ob0_;first|exact obc_)|(apply And.intro<;>(intro h;have hc:=h;try simp only [bs]at h))|(intro h;(try (unfold und at h;conv at h=>whnf));try simp only [bs]at h)|(apply wr0_;exact wrc_)|(apply wg0_;exact wgc_))
  all_goals (conv=>whnf)
  refine Or.inr (Or.inr ⟨[],[9],[],[],[1,7,8],[],?_⟩);conv=>whnf
  refine⟨fun(s:Int×Unit) (t:Unit)=>0≤s.1∧s.1≤l.length∧lp (prB (fun k=>imVar mE (gt 26 l k))) prF l.length 0 ()=lp (prB (fun k=>imVar mE (gt 26 l k))) prF (l.length-s.1.toNat) s.1.toNat (()),fun(s:Int×Unit) (_:Unit)=>(l.length-s.1).toNat,?_⟩
  conv=>whnf
  refine Ini.mk ⟨by(try dsimp only);omega,by(try dsimp only);omega,rfl⟩ me_ ?_
  rintro⟨(k:Int),_⟩ _ ⟨h0,h1,hS⟩
  try dsimp only at h0 h1 hS
  obtain⟨k,rfl⟩:=Int.eq_ofNat_of_zero_le (show(0:Int)≤k by omega)
  rw [Int.toNat_natCast]at hS
  repeat' (refine bc_ fun g_=>?_;(conv at g_=>(arg 1;whnf));refine g_ ?_;clear g_;first|((fail_if_success (apply cH_));(fail_if_success (apply uR_));apply Or.inl)|(apply rn_;exact rm_;exact me_)|(apply mt_;exact me_)|(apply ob0_;first|exact obc_)|(apply And.intro<;>(intro h;have hc:=h;try simp only [bs]at h))|(intro h;(try (unfold und at h;conv at h=>whnf));try simp only [bs]at h)|(apply wr0_;exact wrc_)|(apply wg0_;exact wgc_))
  all_goals (conv=>whnf)
  all_goals first
   |((try dsimp only);refine⟨by omega,by omega,hS.trans ((lp_lt (by omega)).trans ?_)⟩;rw [show((k:Int)+1).toNat=k+1 by omega];symm;unfold prB;(try dsimp only);all_goals exact cl_)
   |((try dsimp only);refine Eq.trans ?_ (hS.trans (lp_lt (by omega))).symm;unfold prB;(try dsimp only);all_goals exact cl_)
   |((try dsimp only);refine Eq.trans ?_ (hS.trans (lp_z (by omega))).symm;unfold prF;(try dsimp only);all_goals exact cl_)
 ·trivial
noncomputable def F_AS:Fact E0:=Fact.co [.lst none 26 [],.clo 75 [] [.fp [.un,.un,.un,.un,.un,.un,.un,.un,.lst none 6 [],.lst none 8 [],.lst none 10 [],.lst none 0 [],.lst none 0 [],.lst none 13 [],.lst none 0 [],.lst none 0 [],.un,.lst none 1 [],.lst none 16 [],.lst none 18 [],.lst none 20 [],.lst none 22 [],.lst none 24 [],.lst none 26 [],.lst none 28 [],.lst none 33 []] 0]] ⟨74,a_CH,by unfold FnOK;kernel_rfl,o_DV⟩
set_option maxHeartbeats 2000000 in
@[reducible] def a_CB:List SV→PR
 |[.lst z_ 28 l,.clo 79 [] []]=>.ok (.b (lp (prB (fun k=>imDep (gt 28 l k))) prF l.length 0 ()))
 |_=>.no
set_option maxHeartbeats 2000000 in
theorem o_DP:FOK 78 a_CB:=by
 intro args m ids vs hG hm hv;unfold a_CB;split
 ·rename_i z_ l;refine calls_fact (DB:=[F_Am]) (IL:=[]) (WL:=[]) (fn:=Proofs.Tryz.f78) rfl rfl rfl rfl rfl rfl (fun hk=>?_) m ids vs hG hm hv
  clear hG hm hv;simp only [know]at hk
  repeat' (refine bc_ fun g_=>?_;(conv at g_=>(arg 1;whnf));refine g_ ?_;clear g_;first|((fail_if_success (apply cH_));(fail_if_success (apply uR_));apply Or.inl)|(apply rn_;exact rm_;exact me_)|(apply mt_;exact me_)|(apply ob0_;first|exact obc_)|(apply And.intro<;>(intro h;have hc:=h;try simp only [bs]at h))|(intro h;(try (unfold und at h;conv at h=>whnf));try simp only [bs]at h)|(apply wr0_;exact wrc_)|(apply wg0_;exact wgc_))
  all_goals (conv=>whnf)
  refine Or.inr (Or.inr ⟨[],[9],[],[],[1,7,8],[],?_⟩);conv=>whnf
  refine⟨fun(s:Int×Unit) (t:Unit)=>0≤s.1∧s.1≤l.length∧lp (prB (fun k=>imDep (gt 28 l k))) prF l.length 0 ()=lp (prB (fun k=>imDep (gt 28 l k))) prF (l.length-s.1.toNat) s.1.toNat (()),fun(s:Int×Unit) (_:Unit)=>(l.length-s.1).toNat,?_⟩
  conv=>whnf
  refine Ini.mk ⟨by(try dsimp only);omega,by(try dsimp only);omega,rfl⟩ me_ ?_
  rintro⟨(k:Int),_⟩ _ ⟨h0,h1,hS⟩
  try dsimp only at h0 h1 hS
  obtain⟨k,rfl⟩:=Int.eq_ofNat_of_zero_le (show(0:Int)≤k by omega)
  rw [Int.toNat_natCast]at hS
  repeat' (refine bc_ fun g_=>?_;(conv at g_=>(arg 1;whnf));refine g_ ?_;clear g_;first|((fail_if_success (apply cH_));(fail_if_success (apply uR_));apply Or.inl)|(apply rn_;exact rm_;exact me_)|(apply mt_;exact me_)|(apply ob0_;first|exact obc_)|(apply And.intro<;>(intro h;have hc:=h;try simp only [bs]at h))|(intro h;(try (unfold und at h;conv at h=>whnf));try simp only [bs]at h)|(apply wr0_;exact wrc_)|(apply wg0_;exact wgc_))
  all_goals (conv=>whnf)
  all_goals first
   |((try dsimp only);refine⟨by omega,by omega,hS.trans ((lp_lt (by omega)).trans ?_)⟩;rw [show((k:Int)+1).toNat=k+1 by omega];symm;unfold prB;(try dsimp only);all_goals exact cl_)
   |((try dsimp only);refine Eq.trans ?_ (hS.trans (lp_lt (by omega))).symm;unfold prB;(try dsimp only);all_goals exact cl_)
   |((try dsimp only);refine Eq.trans ?_ (hS.trans (lp_z (by omega))).symm;unfold prF;(try dsimp only);all_goals exact cl_)
 ·trivial
noncomputable def F_AM:Fact E0:=Fact.co [.lst none 28 [],.clo 79 [] []] ⟨78,a_CB,by unfold FnOK;kernel_rfl,o_DP⟩
set_option maxHeartbeats 2000000 in
@[reducible] def a_CF:List SV→PR
 |[.lst z_ 31 l,.clo 83 [] []]=>.ok (.b (lp (prB (fun k=>imPc (gt 31 l k))) prF l.length 0 ()))
 |_=>.no
set_option maxHeartbeats 2000000 in
theorem o_DT:FOK 82 a_CF:=by
 intro args m ids vs hG hm hv;unfold a_CF;split
 ·rename_i z_ l;refine calls_fact (DB:=[F_Aa]) (IL:=[]) (WL:=[]) (fn:=Proofs.Tryz.f82) rfl rfl rfl rfl rfl rfl (fun hk=>?_) m ids vs hG hm hv
  clear hG hm hv;simp only [know]at hk
  repeat' (refine bc_ fun g_=>?_;(conv at g_=>(arg 1;whnf));refine g_ ?_;clear g_;first|((fail_if_success (apply cH_));(fail_if_success (apply uR_));apply Or.inl)|(apply rn_;exact rm_;exact me_)|(apply mt_;exact me_)|(apply ob0_;first|exact obc_)|(apply And.intro<;>(intro h;have hc:=h;try simp only [bs]at h))|(intro h;(try (unfold und at h;conv at h=>whnf));try simp only [bs]at h)|(apply wr0_;exact wrc_)|(apply wg0_;exact wgc_))
  all_goals (conv=>whnf)
  refine Or.inr (Or.inr ⟨[],[9],[],[],[1,7,8],[],?_⟩);conv=>whnf
  refine⟨fun(s:Int×Unit) (t:Unit)=>0≤s.1∧s.1≤l.length∧lp (prB (fun k=>imPc (gt 31 l k))) prF l.length 0 ()=lp (prB (fun k=>imPc (gt 31 l k))) prF (l.length-s.1.toNat) s.1.toNat (()),fun(s:Int×Unit) (_:Unit)=>(l.length-s.1).toNat,?_⟩
  conv=>whnf
  refine Ini.mk ⟨by(try dsimp only);omega,by(try dsimp only);omega,rfl⟩ me_ ?_
  rintro⟨(k:Int),_⟩ _ ⟨h0,h1,hS⟩
  try dsimp only at h0 h1 hS
  obtain⟨k,rfl⟩:=Int.eq_ofNat_of_zero_le (show(0:Int)≤k by omega)
  rw [Int.toNat_natCast]at hS
  repeat' (refine bc_ fun g_=>?_;(conv at g_=>(arg 1;whnf));refine g_ ?_;clear g_;first|((fail_if_success (apply cH_));(fail_if_success (apply uR_));apply Or.inl)|(apply rn_;exact rm_;exact me_)|(apply mt_;exact me_)|(apply ob0_;first|exact obc_)|(apply And.intro<;>(intro h;have hc:=h;try simp only [bs]at h))|(intro h;(try (unfold und at h;conv at h=>whnf));try simp only [bs]at h)|(apply wr0_;exact wrc_)|(apply wg0_;exact wgc_))
  all_goals (conv=>whnf)
  all_goals first
   |((try dsimp only);refine⟨by omega,by omega,hS.trans ((lp_lt (by omega)).trans ?_)⟩;rw [show((k:Int)+1).toNat=k+1 by omega];symm;unfold prB;(try dsimp only);all_goals exact cl_)
   |((try dsimp only);refine Eq.trans ?_ (hS.trans (lp_lt (by omega))).symm;unfold prB;(try dsimp only);all_goals exact cl_)
   |((try dsimp only);refine Eq.trans ?_ (hS.trans (lp_z (by omega))).symm;unfold prF;(try dsimp only);all_goals exact cl_)
 ·trivial
noncomputable def F_AQ:Fact E0:=Fact.co [.lst none 31 [],.clo 83 [] []] ⟨82,a_CF,by unfold FnOK;kernel_rfl,o_DT⟩
end Go.SX
namespace Go.SX
open Go.XK Go.RowKit
def imDyB (D:List (TabT 13)) (S:List (TabT 0)) (d n:Int) (k:Nat) (s:Int×Int) (next:Int×Int→Bool):Bool :=
 bif !imBtw (gt 13 D k).Kind 0 7 || !imBtw (gt 13 D k).At s.1 (IntKind.i64.wrap (d-imWidth (gt 13 D k).Kind)) || !imBtw (gt 13 D k).Import (-1) (n-1)then false
 else bif decide ((gt 13 D k).Kind=3)then(bif decide ((gt 13 D k).Import<0) || !decide (gI S (gt 13 D k).Import.toNat=(gt 13 D k).At)then false else next (IntKind.i64.wrap ((gt 13 D k).At+imWidth (gt 13 D k).Kind),IntKind.i64.wrap (s.2+1)))
 else bif decide ((gt 13 D k).Kind=5)then(bif decide ((gt 13 D k).Import<0)then false else next (IntKind.i64.wrap ((gt 13 D k).At+imWidth (gt 13 D k).Kind),s.2))
 else bif decide ((gt 13 D k).Kind=6)then(bif decide ((gt 13 D k).Import<0)then false else next (IntKind.i64.wrap ((gt 13 D k).At+imWidth (gt 13 D k).Kind),s.2))
 else bif decide ((gt 13 D k).Kind=7)then(bif decide ((gt 13 D k).Import<0)then false else next (IntKind.i64.wrap ((gt 13 D k).At+imWidth (gt 13 D k).Kind),s.2))
 else next (IntKind.i64.wrap ((gt 13 D k).At+imWidth (gt 13 D k).Kind),s.2)
def imSlB (S:List (TabT 0)) (k:Nat) (n:Int) (next:Int→Bool):Bool:=bif !decide (gI S k = -1)then next (IntKind.i64.wrap (n-1))else next n
def imSlF (n:Int):Bool:=decide (n=0)
def imDyF (S:List (TabT 0)) (s:Int×Int):Bool:=lp (imSlB S) imSlF S.length 0 s.2
def imDyns (D:List (TabT 13)) (S:List (TabT 0)) (d n:Int):Bool:=lp (imDyB D S d n) (imDyF S) D.length 0 (0,0)
set_option maxHeartbeats 16000000 in
@[reducible] def a_CO:List SV→PR
 |[.agg [.str mA,.b mB,.i mC,.i mD,.i mE,.str mF,.str mG,.i mH,.lst zI 6 mI,.lst zJ 8 mJ,.lst zK 10 mK,.lst zL 0 mL,.lst zM 0 mM,.lst zN 13 mN,.lst zO 0 mO,.lst zP 0 mP,.i mQ,.lst zR 1 mR,.lst zS 16 mS,.lst zT 18 mT,.lst zU 20 mU,.lst zV 22 mV,.lst zW 24 mW,.lst zX 26 mX,.lst zY 28 mY,.lst zZ 33 mZ]]=>.ob (mL.length=mK.length) (.b (imDyns mN mL mD mK.length))
 |_=>.no
set_option maxHeartbeats 16000000 in
theorem o_Dc:FOK 17 a_CO:=by
 intro args m ids vs hG hm hv;unfold a_CO;split
 ·rename_i mA mB mC mD mE mF mG mH zI mI zJ mJ zK mK zL mL zM mM zN mN zO mO zP mP mQ zR mR zS mS zT mT zU mU zV mV zW mW zX mX zY mY zZ mZ;intro hb;generalize hz:imDyns mN mL mD mK.length=rr;refine calls_fact (DB:=[F_AX,F_BC]) (IL:=[]) (WL:=[]) (fn:=Proofs.Tryz.f17) rfl rfl rfl rfl rfl rfl (fun hk=>?_) m ids vs hG hm hv
  clear hG hm hv
  repeat' (refine bc_ fun g_=>?_;(conv at g_=>(arg 1;whnf));refine g_ ?_;clear g_;first|((fail_if_success (apply cH_));(fail_if_success (apply uR_));apply Or.inl)|(apply rn_;exact rm_;exact me_)|(apply mt_;exact me_)|((fail_if_success (fail_if_success (apply Exists.intro)));first|(refine ⟨[1,0,1,0,0,1,1],[0,2,1,3,4,5,6],(by decide +kernel),?_⟩;(conv=>whnf);(fail_if_success (apply fa_)))|(refine ⟨[1,0,1,1,1,0,1,0,1,0,1,0,1,1],[0,1,2,3,4,6,10,5,7,8,9,11,12,13],(by decide +kernel),?_⟩;(conv=>whnf);(fail_if_success (apply fa_)))|(refine ⟨[1,0,0,1,1,1,0,1,1,0,1,0,0,1,0,1,1,1,1,0,1,0,0,1,0,1,1],[0,1,2,3,4,5,7,8,10,6,9,11,12,13,14,15,16,17,18,20,19,21,22,23,24,25,26],(by decide +kernel),?_⟩;(conv=>whnf);(fail_if_success (apply fa_))))|(apply ob0_;first|exact obc_|(intro hq<;>(try (conv at hq=>whnf))<;>simp only [bs]at hq<;>(try simp only [Int.toNat_natCast])<;>omega))|(apply And.intro<;>(intro h;have hc:=h;(try exact nc3_ hc);(try exact nc4_ hc);try simp only [bs]at h))|(intro h;(try (unfold und at h;conv at h=>whnf));try simp only [bs]at h)|(apply wr0_;exact wrc_)|(apply wg0_;exact wgc_)|((fail_if_success (fail_if_success (apply Exists.intro)));first|refine Exists.intro _ (And.intro rfl ?_)|refine Exists.intro _ (And.intro (fun _=>rfl) ?_)))
  all_goals (conv=>whnf)
  refine Or.inr (Or.inr ⟨[],[3,4,12],[],[],[1,10,11],[],?_⟩);conv=>whnf
  refine⟨fun(s:Int×Int×Int×Unit) (_:Unit)=>0≤s.2.2.1∧s.2.2.1≤mN.length∧rr=lp (imDyB mN mL mD mK.length) (imDyF mL) (mN.length-s.2.2.1.toNat) s.2.2.1.toNat (s.1,s.2.1),fun(s:Int×Int×Int×Unit) _=>(mN.length-s.2.2.1).toNat,?_⟩
  conv=>whnf
  refine Ini.mk ⟨by(try dsimp only);omega,by(try dsimp only);omega,hz.symm⟩ me_ ?_
  rintro⟨(e1:Int),(n1:Int),(k:Int),_⟩ _ ⟨h0,h1,hS⟩
  try dsimp only at h0 h1 hS
  obtain⟨k,rfl⟩:=Int.eq_ofNat_of_zero_le h0;rw [Int.toNat_natCast]at hS
  repeat' (refine bc_ fun g_=>?_;(conv at g_=>(arg 1;whnf));refine g_ ?_;clear g_;first|((fail_if_success (apply cH_));(fail_if_success (apply uR_));apply Or.inl)|(apply rn_;exact rm_;exact me_)|(apply mt_;exact me_)|((fail_if_success (fail_if_success (apply Exists.intro)));first|(refine ⟨[1,0,1,0,0,1,1],[0,2,1,3,4,5,6],(by decide +kernel),?_⟩;(conv=>whnf);(fail_if_success (apply fa_)))|(refine ⟨[1,0,1,1,1,0,1,0,1,0,1,0,1,1],[0,1,2,3,4,6,10,5,7,8,9,11,12,13],(by decide +kernel),?_⟩;(conv=>whnf);(fail_if_success (apply fa_)))|(refine ⟨[1,0,0,1,1,1,0,1,1,0,1,0,0,1,0,1,1,1,1,0,1,0,0,1,0,1,1],[0,1,2,3,4,5,7,8,10,6,9,11,12,13,14,15,16,17,18,20,19,21,22,23,24,25,26],(by decide +kernel),?_⟩;(conv=>whnf);(fail_if_success (apply fa_))))|(apply ob0_;first|exact obc_|(intro hq<;>(try (conv at hq=>whnf))<;>simp only [bs]at hq<;>(try simp only [Int.toNat_natCast])<;>omega))|(apply And.intro<;>(intro h;have hc:=h;(try exact nc3_ hc);(try exact nc4_ hc);try simp only [bs]at h))|(intro h;(try (unfold und at h;conv at h=>whnf));try simp only [bs]at h)|(apply wr0_;exact wrc_)|(apply wg0_;exact wgc_)|((fail_if_success (fail_if_success (apply Exists.intro)));first|refine Exists.intro _ (And.intro rfl ?_)|refine Exists.intro _ (And.intro (fun _=>rfl) ?_)))
  all_goals (conv=>whnf)
  all_goals first
   |((try dsimp only);refine⟨by omega,by omega,hS.trans ((lp_lt (by omega)).trans ?_)⟩;rw [show((k:Int)+1).toNat=k+1 by omega];symm;unfold imDyB;(try dsimp only);all_goals exact cl_)
   |((try dsimp only);refine Eq.trans ?_ (hS.trans (lp_lt (by omega))).symm;unfold imDyB;(try dsimp only);all_goals exact cl_)
   |skip
  replace hS:=hS.trans (lp_z (by omega))
  unfold imDyF at hS;refine Or.inr (Or.inr ⟨[],[4,80],[],[],[78,79],[],?_⟩);conv=>whnf
  refine⟨fun(s:Int×Int×Unit) (_:Unit)=>0≤s.2.1∧s.2.1≤mL.length∧rr=lp (imSlB mL) imSlF (mL.length-s.2.1.toNat) s.2.1.toNat s.1,fun(s:Int×Int×Unit) _=>(mL.length-s.2.1).toNat,?_⟩
  conv=>whnf
  refine Ini.mk ⟨by(try dsimp only);omega,by(try dsimp only);omega,hS⟩ me_ ?_
  rintro⟨(n2:Int),(j:Int),_⟩ _ ⟨g0,g1,gS⟩
  try dsimp only at g0 g1 gS
  obtain⟨j,rfl⟩:=Int.eq_ofNat_of_zero_le g0;rw [Int.toNat_natCast]at gS
  repeat' (refine bc_ fun g_=>?_;(conv at g_=>(arg 1;whnf));refine g_ ?_;clear g_;first|((fail_if_success (apply cH_));(fail_if_success (apply uR_));apply Or.inl)|(apply rn_;exact rm_;exact me_)|(apply mt_;exact me_)|((fail_if_success (fail_if_success (apply Exists.intro)));first|(refine ⟨[1,0,1,0,0,1,1],[0,2,1,3,4,5,6],(by decide +kernel),?_⟩;(conv=>whnf);(fail_if_success (apply fa_)))|(refine ⟨[1,0,1,1,1,0,1,0,1,0,1,0,1,1],[0,1,2,3,4,6,10,5,7,8,9,11,12,13],(by decide +kernel),?_⟩;(conv=>whnf);(fail_if_success (apply fa_)))|(refine ⟨[1,0,0,1,1,1,0,1,1,0,1,0,0,1,0,1,1,1,1,0,1,0,0,1,0,1,1],[0,1,2,3,4,5,7,8,10,6,9,11,12,13,14,15,16,17,18,20,19,21,22,23,24,25,26],(by decide +kernel),?_⟩;(conv=>whnf);(fail_if_success (apply fa_))))|(apply ob0_;first|exact obc_|(intro hq<;>(try (conv at hq=>whnf))<;>simp only [bs]at hq<;>(try simp only [Int.toNat_natCast])<;>omega))|(apply And.intro<;>(intro h;have hc:=h;(try exact nc3_ hc);(try exact nc4_ hc);try simp only [bs]at h))|(intro h;(try (unfold und at h;conv at h=>whnf));try simp only [bs]at h)|(apply wr0_;exact wrc_)|(apply wg0_;exact wgc_)|((fail_if_success (fail_if_success (apply Exists.intro)));first|refine Exists.intro _ (And.intro rfl ?_)|refine Exists.intro _ (And.intro (fun _=>rfl) ?_)))
  all_goals (conv=>whnf)
  all_goals first
   |((try dsimp only);refine⟨by omega,by omega,gS.trans ((lp_lt (by omega)).trans ?_)⟩;rw [show((j:Int)+1).toNat=j+1 by omega];symm;unfold imSlB;(try dsimp only);all_goals exact cl_)
   |((try dsimp only);exact(gS.trans (lp_z (by omega))).symm)
 ·trivial
noncomputable def F_Ab:Fact E0:=Fact.co [.agg [.un,.un,.un,.un,.un,.un,.un,.un,.lst none 6 [],.lst none 8 [],.lst none 10 [],.lst none 0 [],.lst none 0 [],.lst none 13 [],.lst none 0 [],.lst none 0 [],.un,.lst none 1 [],.lst none 16 [],.lst none 18 [],.lst none 20 [],.lst none 22 [],.lst none 24 [],.lst none 26 [],.lst none 28 [],.lst none 33 []]] ⟨17,a_CO,by unfold FnOK;kernel_rfl,o_Dc⟩
end Go.SX
namespace Go.SX
open Go.XK Go.RowKit
@[reducible] def a_CU:List SV→PR
 |[.agg [.i xSec,.i xFrom,.i xTo,.str xName,.str xFile,.i xLine]]=>.ok (.tup [.i xSec,.i xFrom,.i xTo])
 |_=>.no
theorem o_Di:FOK 69 a_CU:=by
 intro args m ids vs hG hm hv;unfold a_CU;split
 ·rename_i xSec xFrom xTo xName xFile xLine;refine calls_fact (DB:=[]) (IL:=[]) (WL:=[]) (fn:=Proofs.Tryz.f69) rfl rfl rfl rfl rfl rfl (fun hk=>?_) m ids vs hG hm hv
  clear hG hm hv
  repeat' (refine bc_ fun g_=>?_;(conv at g_=>(arg 1;whnf));refine g_ ?_;clear g_;first|((fail_if_success (apply cH_));(fail_if_success (apply uR_));apply Or.inl)|(apply rn_;exact rm_;exact me_)|(apply mt_;exact me_)|((fail_if_success (fail_if_success (apply Exists.intro)));first|(refine ⟨[1,0,1,0,1,0,1,1,1],[0,2,4,1,6,3,7,5,8],(by decide +kernel),?_⟩;(conv=>whnf);(fail_if_success (apply fa_))))|(apply ob0_;first|exact obc_)|(apply And.intro<;>(intro h;have hc:=h;try simp only [bs]at h))|(intro h;(try (unfold und at h;conv at h=>whnf));try simp only [bs]at h)|(apply wr0_;exact wrc_)|(apply wg0_;exact wgc_))
  all_goals (conv=>whnf)
  all_goals exact me_
 ·trivial
noncomputable def F_Ah:Fact E0:=⟨69,a_CU,by unfold FnOK;kernel_rfl,o_Di⟩
@[reducible] def a_CW:List SV→PR
 |[.agg [.i xSec,.i xFrom,.i xTo,.str xName,.i xWhere,.i xN]]=>.ok (.tup [.i xSec,.i xFrom,.i xTo])
 |_=>.no
theorem o_Dk:FOK 73 a_CW:=by
 intro args m ids vs hG hm hv;unfold a_CW;split
 ·rename_i xSec xFrom xTo xName xWhere xN;refine calls_fact (DB:=[]) (IL:=[]) (WL:=[]) (fn:=Proofs.Tryz.f73) rfl rfl rfl rfl rfl rfl (fun hk=>?_) m ids vs hG hm hv
  clear hG hm hv
  repeat' (refine bc_ fun g_=>?_;(conv at g_=>(arg 1;whnf));refine g_ ?_;clear g_;first|((fail_if_success (apply cH_));(fail_if_success (apply uR_));apply Or.inl)|(apply rn_;exact rm_;exact me_)|(apply mt_;exact me_)|((fail_if_success (fail_if_success (apply Exists.intro)));first|(refine ⟨[1,0,1,0,1,0,1,1,1],[0,2,4,1,6,3,7,5,8],(by decide +kernel),?_⟩;(conv=>whnf);(fail_if_success (apply fa_))))|(apply ob0_;first|exact obc_)|(apply And.intro<;>(intro h;have hc:=h;try simp only [bs]at h))|(intro h;(try (unfold und at h;conv at h=>whnf));try simp only [bs]at h)|(apply wr0_;exact wrc_)|(apply wg0_;exact wgc_))
  all_goals (conv=>whnf)
  all_goals exact me_
 ·trivial
noncomputable def F_Aj:Fact E0:=⟨73,a_CW,by unfold FnOK;kernel_rfl,o_Dk⟩
@[reducible] def a_CY:List SV→PR
 |[.agg [.i xSec,.i xFrom,.i xTo,.i xBytes]]=>.ok (.tup [.i xSec,.i xFrom,.i xTo])
 |_=>.no
theorem o_Dm:FOK 77 a_CY:=by
 intro args m ids vs hG hm hv;unfold a_CY;split
 ·rename_i xSec xFrom xTo xBytes;refine calls_fact (DB:=[]) (IL:=[]) (WL:=[]) (fn:=Proofs.Tryz.f77) rfl rfl rfl rfl rfl rfl (fun hk=>?_) m ids vs hG hm hv
  clear hG hm hv
  repeat' (refine bc_ fun g_=>?_;(conv at g_=>(arg 1;whnf));refine g_ ?_;clear g_;first|((fail_if_success (apply cH_));(fail_if_success (apply uR_));apply Or.inl)|(apply rn_;exact rm_;exact me_)|(apply mt_;exact me_)|((fail_if_success (fail_if_success (apply Exists.intro)));first|(refine ⟨[1,0,1,0,1,0,1,1,1],[0,2,4,1,6,3,7,5,8],(by decide +kernel),?_⟩;(conv=>whnf);(fail_if_success (apply fa_))))|(apply ob0_;first|exact obc_)|(apply And.intro<;>(intro h;have hc:=h;try simp only [bs]at h))|(intro h;(try (unfold und at h;conv at h=>whnf));try simp only [bs]at h)|(apply wr0_;exact wrc_)|(apply wg0_;exact wgc_))
  all_goals (conv=>whnf)
  all_goals exact me_
 ·trivial
noncomputable def F_Al:Fact E0:=⟨77,a_CY,by unfold FnOK;kernel_rfl,o_Dm⟩
def imRwB (c:Int) (f:Nat→Int×Int×Int) (k:Nat) (b:Int) (next:Int→Bool):Bool :=
 bif !(decide ((f k).1=0)&&decide (b≤(f k).2.1)&&decide ((f k).2.1≤(f k).2.2)&&decide ((f k).2.2≤c))then false else next (f k).2.1
def imRwF (_:Int):Bool:=true
def imRows (c:Int) (f:Nat→Int×Int×Int) (n:Nat):Bool:=lp (imRwB c f) imRwF n 0 0
noncomputable def I_Bc:Inl E0:=Inl.of 70 Proofs.Tryz.f70 rfl rfl (by unfold FnOK;kernel_rfl)
noncomputable def I_Bm:Inl E0:=Inl.of 104 Proofs.Tryz.f104 rfl rfl (by unfold FnOK;kernel_rfl)
set_option maxHeartbeats 4000000 in
@[reducible] def a_Ci:List SV→PR
 |[.agg [.str mA,.b mB,.i mC,.i mD,.i mE,.str mF,.str mG,.i mH,.lst zI 6 mI,.lst zJ 8 mJ,.lst zK 10 mK,.lst zL 0 mL,.lst zM 0 mM,.lst zN 13 mN,.lst zO 0 mO,.lst zP 0 mP,.i mQ,.lst zR 1 mR,.lst zS 16 mS,.lst zT 18 mT,.lst zU 20 mU,.lst zV 22 mV,.lst zW 24 mW,.lst zX 26 mX,.lst zY 28 mY,.lst zZ 33 mZ],.lst z_ 24 l,.clo 69 [] []]=>.ok (.b (imRows mC (fun k=>((gt 24 l k).Sec,(gt 24 l k).From,(gt 24 l k).To)) l.length))
 |_=>.no
set_option maxHeartbeats 4000000 in
theorem o_Dw:FOK 68 a_Ci:=by
 intro args m ids vs hG hm hv;unfold a_Ci;split
 ·rename_i mA mB mC mD mE mF mG mH zI mI zJ mJ zK mK zL mL zM mM zN mN zO mO zP mP mQ zR mR zS mS zT mT zU mU zV mV zW mW zX mX zY mY zZ mZ z_ l;refine calls_fact (DB:=[F_Ah]) (IL:=[I_Bc,I_Bm]) (WL:=[]) (fn:=Proofs.Tryz.f68) rfl rfl rfl rfl rfl rfl (fun hk=>?_) m ids vs hG hm hv
  clear hG hm hv
  repeat' (refine bc_ fun g_=>?_;(conv at g_=>(arg 1;whnf));refine g_ ?_;clear g_;first|((fail_if_success (apply cH_));(fail_if_success (apply uR_));apply Or.inl)|(apply rn_;exact rm_;exact me_)|(apply mt_;exact me_)|(apply ob0_;first|exact obc_)|(apply And.intro<;>(intro h;have hc:=h;try simp only [bs]at h))|(intro h;(try (unfold und at h;conv at h=>whnf));try simp only [bs]at h)|(apply wr0_;exact wrc_)|(apply wg0_;exact wgc_))
  all_goals (conv=>whnf)
  refine Or.inr (Or.inr ⟨[],[9],[],[2],[1,7,8],[],?_⟩);conv=>whnf
  refine⟨fun(s:Int×Unit) (t:(Int×Unit)×Unit)=>0≤s.1∧s.1≤l.length∧imRows mC (fun k=>((gt 24 l k).Sec,(gt 24 l k).From,(gt 24 l k).To)) l.length=lp (imRwB mC (fun k=>((gt 24 l k).Sec,(gt 24 l k).From,(gt 24 l k).To))) imRwF (l.length-s.1.toNat) s.1.toNat (t.1.1),fun(s:Int×Unit) (_:(Int×Unit)×Unit)=>(l.length-s.1).toNat,?_⟩
  conv=>whnf
  refine Ini.mk ⟨by(try dsimp only);omega,by(try dsimp only);omega,rfl⟩ me_ ?_
  rintro⟨(k:Int),_⟩ ⟨(y0:(Int×Unit)),_⟩ ⟨h0,h1,hS⟩
  try dsimp only at h0 h1 hS
  obtain⟨k,rfl⟩:=Int.eq_ofNat_of_zero_le (show(0:Int)≤k by omega)
  rw [Int.toNat_natCast]at hS
  repeat' (refine bc_ fun g_=>?_;(conv at g_=>(arg 1;whnf));refine g_ ?_;clear g_;first|((fail_if_success (apply cH_));(fail_if_success (apply uR_));apply Or.inl)|(apply rn_;exact rm_;exact me_)|(apply mt_;exact me_)|(apply ob0_;first|exact obc_)|(apply And.intro<;>(intro h;have hc:=h;try simp only [bs]at h))|(intro h;(try (unfold und at h;conv at h=>whnf));try simp only [bs]at h)|(apply wr0_;exact wrc_)|(apply wg0_;exact wgc_))
  all_goals (conv=>whnf)
  all_goals first
   |((try dsimp only);refine⟨by omega,by omega,hS.trans ((lp_lt (by omega)).trans ?_)⟩;rw [show((k:Int)+1).toNat=k+1 by omega];symm;unfold imRwB;(try dsimp only);all_goals exact cl_)
   |((try dsimp only);refine Eq.trans ?_ (hS.trans (lp_lt (by omega))).symm;unfold imRwB;(try dsimp only);all_goals exact cl_)
   |((try dsimp only);refine Eq.trans ?_ (hS.trans (lp_z (by omega))).symm;unfold imRwF;(try dsimp only);all_goals exact cl_)
 ·trivial
noncomputable def F_Aw:Fact E0:=Fact.co [.agg [.un,.un,.un,.un,.un,.un,.un,.un,.lst none 6 [],.lst none 8 [],.lst none 10 [],.lst none 0 [],.lst none 0 [],.lst none 13 [],.lst none 0 [],.lst none 0 [],.un,.lst none 1 [],.lst none 16 [],.lst none 18 [],.lst none 20 [],.lst none 22 [],.lst none 24 [],.lst none 26 [],.lst none 28 [],.lst none 33 []],.lst none 24 [],.clo 69 [] []] ⟨68,a_Ci,by unfold FnOK;kernel_rfl,o_Dw⟩
noncomputable def I_Be:Inl E0:=Inl.of 74 Proofs.Tryz.f74 rfl rfl (by unfold FnOK;kernel_rfl)
noncomputable def I_Bn:Inl E0:=Inl.of 105 Proofs.Tryz.f105 rfl rfl (by unfold FnOK;kernel_rfl)
set_option maxHeartbeats 4000000 in
@[reducible] def a_Cj:List SV→PR
 |[.agg [.str mA,.b mB,.i mC,.i mD,.i mE,.str mF,.str mG,.i mH,.lst zI 6 mI,.lst zJ 8 mJ,.lst zK 10 mK,.lst zL 0 mL,.lst zM 0 mM,.lst zN 13 mN,.lst zO 0 mO,.lst zP 0 mP,.i mQ,.lst zR 1 mR,.lst zS 16 mS,.lst zT 18 mT,.lst zU 20 mU,.lst zV 22 mV,.lst zW 24 mW,.lst zX 26 mX,.lst zY 28 mY,.lst zZ 33 mZ],.lst z_ 26 l,.clo 73 [] []]=>.ok (.b (imRows mC (fun k=>((gt 26 l k).Sec,(gt 26 l k).From,(gt 26 l k).To)) l.length))
 |_=>.no
set_option maxHeartbeats 4000000 in
theorem o_Dx:FOK 72 a_Cj:=by
 intro args m ids vs hG hm hv;unfold a_Cj;split
 ·rename_i mA mB mC mD mE mF mG mH zI mI zJ mJ zK mK zL mL zM mM zN mN zO mO zP mP mQ zR mR zS mS zT mT zU mU zV mV zW mW zX mX zY mY zZ mZ z_ l;refine calls_fact (DB:=[F_Aj]) (IL:=[I_Be,I_Bn]) (WL:=[]) (fn:=Proofs.Tryz.f72) rfl rfl rfl rfl rfl rfl (fun hk=>?_) m ids vs hG hm hv
  clear hG hm hv
  repeat' (refine bc_ fun g_=>?_;(conv at g_=>(arg 1;whnf));refine g_ ?_;clear g_;first|((fail_if_success (apply cH_));(fail_if_success (apply uR_));apply Or.inl)|(apply rn_;exact rm_;exact me_)|(apply mt_;exact me_)|(apply ob0_;first|exact obc_)|(apply And.intro<;>(intro h;have hc:=h;try simp only [bs]at h))|(intro h;(try (unfold und at h;conv at h=>whnf));try simp only [bs]at h)|(apply wr0_;exact wrc_)|(apply wg0_;exact wgc_))
  all_goals (conv=>whnf)
  refine Or.inr (Or.inr ⟨[],[9],[],[2],[1,7,8],[],?_⟩);conv=>whnf
  refine⟨fun(s:Int×Unit) (t:(Int×Unit)×Unit)=>0≤s.1∧s.1≤l.length∧imRows mC (fun k=>((gt 26 l k).Sec,(gt 26 l k).From,(gt 26 l k).To)) l.length=lp (imRwB mC (fun k=>((gt 26 l k).Sec,(gt 26 l k).From,(gt 26 l k).To))) imRwF (l.length-s.1.toNat) s.1.toNat (t.1.1),fun(s:Int×Unit) (_:(Int×Unit)×Unit)=>(l.length-s.1).toNat,?_⟩
  conv=>whnf
  refine Ini.mk ⟨by(try dsimp only);omega,by(try dsimp only);omega,rfl⟩ me_ ?_
  rintro⟨(k:Int),_⟩ ⟨(y0:(Int×Unit)),_⟩ ⟨h0,h1,hS⟩
  try dsimp only at h0 h1 hS
  obtain⟨k,rfl⟩:=Int.eq_ofNat_of_zero_le (show(0:Int)≤k by omega)
  rw [Int.toNat_natCast]at hS
  repeat' (refine bc_ fun g_=>?_;(conv at g_=>(arg 1;whnf));refine g_ ?_;clear g_;first|((fail_if_success (apply cH_));(fail_if_success (apply uR_));apply Or.inl)|(apply rn_;exact rm_;exact me_)|(apply mt_;exact me_)|(apply ob0_;first|exact obc_)|(apply And.intro<;>(intro h;have hc:=h;try simp only [bs]at h))|(intro h;(try (unfold und at h;conv at h=>whnf));try simp only [bs]at h)|(apply wr0_;exact wrc_)|(apply wg0_;exact wgc_))
  all_goals (conv=>whnf)
  all_goals first
   |((try dsimp only);refine⟨by omega,by omega,hS.trans ((lp_lt (by omega)).trans ?_)⟩;rw [show((k:Int)+1).toNat=k+1 by omega];symm;unfold imRwB;(try dsimp only);all_goals exact cl_)
   |((try dsimp only);refine Eq.trans ?_ (hS.trans (lp_lt (by omega))).symm;unfold imRwB;(try dsimp only);all_goals exact cl_)
   |((try dsimp only);refine Eq.trans ?_ (hS.trans (lp_z (by omega))).symm;unfold imRwF;(try dsimp only);all_goals exact cl_)
 ·trivial
noncomputable def F_Ax:Fact E0:=Fact.co [.agg [.un,.un,.un,.un,.un,.un,.un,.un,.lst none 6 [],.lst none 8 [],.lst none 10 [],.lst none 0 [],.lst none 0 [],.lst none 13 [],.lst none 0 [],.lst none 0 [],.un,.lst none 1 [],.lst none 16 [],.lst none 18 [],.lst none 20 [],.lst none 22 [],.lst none 24 [],.lst none 26 [],.lst none 28 [],.lst none 33 []],.lst none 26 [],.clo 73 [] []] ⟨72,a_Cj,by unfold FnOK;kernel_rfl,o_Dx⟩
noncomputable def I_BZ:Inl E0:=Inl.of 78 Proofs.Tryz.f78 rfl rfl (by unfold FnOK;kernel_rfl)
noncomputable def I_Bl:Inl E0:=Inl.of 106 Proofs.Tryz.f106 rfl rfl (by unfold FnOK;kernel_rfl)
set_option maxHeartbeats 4000000 in
@[reducible] def a_Ch:List SV→PR
 |[.agg [.str mA,.b mB,.i mC,.i mD,.i mE,.str mF,.str mG,.i mH,.lst zI 6 mI,.lst zJ 8 mJ,.lst zK 10 mK,.lst zL 0 mL,.lst zM 0 mM,.lst zN 13 mN,.lst zO 0 mO,.lst zP 0 mP,.i mQ,.lst zR 1 mR,.lst zS 16 mS,.lst zT 18 mT,.lst zU 20 mU,.lst zV 22 mV,.lst zW 24 mW,.lst zX 26 mX,.lst zY 28 mY,.lst zZ 33 mZ],.lst z_ 28 l,.clo 77 [] []]=>.ok (.b (imRows mC (fun k=>((gt 28 l k).Sec,(gt 28 l k).From,(gt 28 l k).To)) l.length))
 |_=>.no
set_option maxHeartbeats 4000000 in
theorem o_Dv:FOK 76 a_Ch:=by
 intro args m ids vs hG hm hv;unfold a_Ch;split
 ·rename_i mA mB mC mD mE mF mG mH zI mI zJ mJ zK mK zL mL zM mM zN mN zO mO zP mP mQ zR mR zS mS zT mT zU mU zV mV zW mW zX mX zY mY zZ mZ z_ l;refine calls_fact (DB:=[F_Al]) (IL:=[I_BZ,I_Bl]) (WL:=[]) (fn:=Proofs.Tryz.f76) rfl rfl rfl rfl rfl rfl (fun hk=>?_) m ids vs hG hm hv
  clear hG hm hv
  repeat' (refine bc_ fun g_=>?_;(conv at g_=>(arg 1;whnf));refine g_ ?_;clear g_;first|((fail_if_success (apply cH_));(fail_if_success (apply uR_));apply Or.inl)|(apply rn_;exact rm_;exact me_)|(apply mt_;exact me_)|(apply ob0_;first|exact obc_)|(apply And.intro<;>(intro h;have hc:=h;try simp only [bs]at h))|(intro h;(try (unfold und at h;conv at h=>whnf));try simp only [bs]at h)|(apply wr0_;exact wrc_)|(apply wg0_;exact wgc_))
  all_goals (conv=>whnf)
  refine Or.inr (Or.inr ⟨[],[9],[],[2],[1,7,8],[],?_⟩);conv=>whnf
  refine⟨fun(s:Int×Unit) (t:(Int×Unit)×Unit)=>0≤s.1∧s.1≤l.length∧imRows mC (fun k=>((gt 28 l k).Sec,(gt 28 l k).From,(gt 28 l k).To)) l.length=lp (imRwB mC (fun k=>((gt 28 l k).Sec,(gt 28 l k).From,(gt 28 l k).To))) imRwF (l.length-s.1.toNat) s.1.toNat (t.1.1),fun(s:Int×Unit) (_:(Int×Unit)×Unit)=>(l.length-s.1).toNat,?_⟩
  conv=>whnf
  refine Ini.mk ⟨by(try dsimp only);omega,by(try dsimp only);omega,rfl⟩ me_ ?_
  rintro⟨(k:Int),_⟩ ⟨(y0:(Int×Unit)),_⟩ ⟨h0,h1,hS⟩
  try dsimp only at h0 h1 hS
  obtain⟨k,rfl⟩:=Int.eq_ofNat_of_zero_le (show(0:Int)≤k by omega)
  rw [Int.toNat_natCast]at hS
  repeat' (refine bc_ fun g_=>?_;(conv at g_=>(arg 1;whnf));refine g_ ?_;clear g_;first|((fail_if_success (apply cH_));(fail_if_success (apply uR_));apply Or.inl)|(apply rn_;exact rm_;exact me_)|(apply mt_;exact me_)|(apply ob0_;first|exact obc_)|(apply And.intro<;>(intro h;have hc:=h;try simp only [bs]at h))|(intro h;(try (unfold und at h;conv at h=>whnf));try simp only [bs]at h)|(apply wr0_;exact wrc_)|(apply wg0_;exact wgc_))
  all_goals (conv=>whnf)
  all_goals first
   |((try dsimp only);refine⟨by omega,by omega,hS.trans ((lp_lt (by omega)).trans ?_)⟩;rw [show((k:Int)+1).toNat=k+1 by omega];symm;unfold imRwB;(try dsimp only);all_goals exact cl_)
   |((try dsimp only);refine Eq.trans ?_ (hS.trans (lp_lt (by omega))).symm;unfold imRwB;(try dsimp only);all_goals exact cl_)
   |((try dsimp only);refine Eq.trans ?_ (hS.trans (lp_z (by omega))).symm;unfold imRwF;(try dsimp only);all_goals exact cl_)
 ·trivial
noncomputable def F_Av:Fact E0:=Fact.co [.agg [.un,.un,.un,.un,.un,.un,.un,.un,.lst none 6 [],.lst none 8 [],.lst none 10 [],.lst none 0 [],.lst none 0 [],.lst none 13 [],.lst none 0 [],.lst none 0 [],.un,.lst none 1 [],.lst none 16 [],.lst none 18 [],.lst none 20 [],.lst none 22 [],.lst none 24 [],.lst none 26 [],.lst none 28 [],.lst none 33 []],.lst none 28 [],.clo 77 [] []] ⟨76,a_Ch,by unfold FnOK;kernel_rfl,o_Dv⟩
end Go.SX
namespace Go.SX
open Go.XK Go.RowKit
def imEnB (c:Int) (E:List (TabT 22)) (k:Nat) (b:Int) (next:Int→Bool):Bool :=
 bif !(imBtw (gt 22 E k).At b c&&imBtw (gt 22 E k).Size 1 (IntKind.i64.wrap (c-(gt 22 E k).At)))then false else next (IntKind.i64.wrap ((gt 22 E k).At+(gt 22 E k).Size))
noncomputable def I_Bd:Inl E0:=Inl.of 66 Proofs.Tryz.f66 rfl rfl (by unfold FnOK;kernel_rfl)
noncomputable def I_Bj:Inl E0:=Inl.of 67 Proofs.Tryz.f67 rfl rfl (by unfold FnOK;kernel_rfl)
def imEnds (c:Int) (E:List (TabT 22)):Bool:=lp (imEnB c E) imRwF E.length 0 0
set_option maxHeartbeats 8000000 in
@[reducible] def a_CR:List SV→PR
 |[.agg [.str mA,.b mB,.i mC,.i mD,.i mE,.str mF,.str mG,.i mH,.lst zI 6 mI,.lst zJ 8 mJ,.lst zK 10 mK,.lst zL 0 mL,.lst zM 0 mM,.lst zN 13 mN,.lst zO 0 mO,.lst zP 0 mP,.i mQ,.lst zR 1 mR,.lst zS 16 mS,.lst zT 18 mT,.lst zU 20 mU,.lst zV 22 mV,.lst zW 24 mW,.lst zX 26 mX,.lst zY 28 mY,.lst zZ 33 mZ]]=>.ok (.b (lp (prB (fun k=>imMark mE mT k (gt 18 mT k))) prF mT.length 0 ()&&lp (prB (fun k=>imLine mC mU k (gt 20 mU k))) prF mU.length 0 ()&&imEnds mC mV&&(imRows mC (fun k=>((gt 24 mW k).Sec,(gt 24 mW k).From,(gt 24 mW k).To)) mW.length&&lp (prB (fun k=>imInl (gt 24 mW k))) prF mW.length 0 ())&&(imRows mC (fun k=>((gt 26 mX k).Sec,(gt 26 mX k).From,(gt 26 mX k).To)) mX.length&&lp (prB (fun k=>imVar mE (gt 26 mX k))) prF mX.length 0 ())&&(imRows mC (fun k=>((gt 28 mY k).Sec,(gt 28 mY k).From,(gt 28 mY k).To)) mY.length&&lp (prB (fun k=>imDep (gt 28 mY k))) prF mY.length 0 ())))
 |_=>.no
set_option maxHeartbeats 8000000 in
theorem o_Df:FOK 20 a_CR:=by
 intro args m ids vs hG hm hv;unfold a_CR;split
 ·rename_i mA mB mC mD mE mF mG mH zI mI zJ mJ zK mK zL mL zM mM zN mN zO mO zP mP mQ zR mR zS mS zT mT zU mU zV mV zW mW zX mX zY mY zZ mZ;generalize he:imEnds mC mV=ee;refine calls_fact (DB:=[F_AP,F_AO,F_Aw,F_AN,F_Ax,F_AS,F_Av,F_AM,F_AX]) (IL:=[I_Bd,I_Bj]) (WL:=[]) (fn:=Proofs.Tryz.f20) rfl rfl rfl rfl rfl rfl (fun hk=>?_) m ids vs hG hm hv
  clear hG hm hv
  repeat' (refine bc_ fun g_=>?_;(conv at g_=>(arg 1;whnf));refine g_ ?_;clear g_;first|((fail_if_success (apply cH_));(fail_if_success (apply uR_));apply Or.inl)|(apply rn_;exact rm_;exact me_)|(apply mt_;exact me_)|(apply ob0_;first|(exact Nat.le_refl _)|exact obc_)|(apply And.intro<;>(intro h;have hc:=h;try simp only [bs]at h))|(intro h;(try (unfold und at h;conv at h=>whnf));try simp only [bs]at h)|(apply wr0_;exact wrc_)|(apply wg0_;exact wgc_)|((fail_if_success (fail_if_success (apply Exists.intro)));first|refine Exists.intro _ (And.intro rfl ?_)|refine Exists.intro _ (And.intro (fun _=>rfl) ?_)))
  all_goals (conv=>whnf)
  refine Or.inr (Or.inr ⟨[],[9],[],[2],[1,7,8],[],?_⟩);conv=>whnf
  refine⟨fun(s:Int×Unit) (t:(Int×Unit)×Unit)=>0≤s.1∧s.1≤mV.length∧ee=lp (imEnB mC mV) imRwF (mV.length-s.1.toNat) s.1.toNat t.1.1,fun(s:Int×Unit) _=>(mV.length-s.1).toNat,?_⟩
  conv=>whnf
  refine Ini.mk ⟨by(try dsimp only);omega,by(try dsimp only);omega,he.symm⟩ me_ ?_
  rintro⟨(k:Int),_⟩ ⟨⟨(b1:Int),_⟩,_⟩ ⟨h0,h1,hS⟩
  try dsimp only at h0 h1 hS
  obtain⟨k,rfl⟩:=Int.eq_ofNat_of_zero_le h0;rw [Int.toNat_natCast]at hS
  repeat' (refine bc_ fun g_=>?_;(conv at g_=>(arg 1;whnf));refine g_ ?_;clear g_;first|((fail_if_success (apply cH_));(fail_if_success (apply uR_));apply Or.inl)|(apply rn_;exact rm_;exact me_)|(apply mt_;exact me_)|(apply ob0_;first|(exact Nat.le_refl _)|exact obc_)|(apply And.intro<;>(intro h;have hc:=h;try simp only [bs]at h))|(intro h;(try (unfold und at h;conv at h=>whnf));try simp only [bs]at h)|(apply wr0_;exact wrc_)|(apply wg0_;exact wgc_)|((fail_if_success (fail_if_success (apply Exists.intro)));first|refine Exists.intro _ (And.intro rfl ?_)|refine Exists.intro _ (And.intro (fun _=>rfl) ?_)))
  all_goals (conv=>whnf)
  all_goals first
   |((try dsimp only);refine⟨by omega,by omega,hS.trans ((lp_lt (by omega)).trans ?_)⟩;rw [show((k:Int)+1).toNat=k+1 by omega];symm;unfold imEnB;(try dsimp only);all_goals exact cl_)
   |(have e1:ee=true:=hS.trans (lp_z (by omega));subst e1;exact rfl)
   |(
      have e1:ee=false:=Eq.trans (hS.trans (lp_lt (by omega))) (Eq.symm (eq_ct (by assumption) rfl))
      subst e1;exact rfl)
 ·trivial
noncomputable def F_Ae:Fact E0:=Fact.co [.agg [.un,.un,.un,.un,.un,.un,.un,.un,.lst none 6 [],.lst none 8 [],.lst none 10 [],.lst none 0 [],.lst none 0 [],.lst none 13 [],.lst none 0 [],.lst none 0 [],.un,.lst none 1 [],.lst none 16 [],.lst none 18 [],.lst none 20 [],.lst none 22 [],.lst none 24 [],.lst none 26 [],.lst none 28 [],.lst none 33 []]] ⟨20,a_CR,by unfold FnOK;kernel_rfl,o_Df⟩
end Go.SX
namespace Go.SX
open Go.XK Go.RowKit
set_option maxHeartbeats 2000000 in
@[reducible] def a_CI:List SV→PR
 |[.lst z_ 0 l,.clo 57 [] [.fp [.str mA,.b mB,.i mC,.i mD,.i mE,.str mF,.str mG,.i mH,.lst zI 6 mI,.lst zJ 8 mJ,.lst zK 10 mK,.lst zL 0 mL,.lst zM 0 mM,.lst zN 13 mN,.lst zO 0 mO,.lst zP 0 mP,.i mQ,.lst zR 1 mR,.lst zS 16 mS,.lst zT 18 mT,.lst zU 20 mU,.lst zV 22 mV,.lst zW 24 mW,.lst zX 26 mX,.lst zY 28 mY,.lst zZ 33 mZ] 0]]=>.ok (.b (lp (prB (fun k=>imIns mC (gt 0 l k))) prF l.length 0 ()))
 |_=>.no
set_option maxHeartbeats 2000000 in
theorem o_DW:FOK 38 a_CI:=by
 intro args m ids vs hG hm hv;unfold a_CI;split
 ·rename_i z_ l mA mB mC mD mE mF mG mH zI mI zJ mJ zK mK zL mL zM mM zN mN zO mO zP mP mQ zR mR zS mS zT mT zU mU zV mV zW mW zX mX zY mY zZ mZ;refine calls_fact (DB:=[F_BB]) (IL:=[]) (WL:=[]) (fn:=Proofs.Tryz.f38) rfl rfl rfl rfl rfl rfl (fun hk=>?_) m ids vs hG hm hv
  clear hG hm hv;simp only [know]at hk
  repeat' (refine bc_ fun g_=>?_;(conv at g_=>(arg 1;whnf));refine g_ ?_;clear g_;first|((fail_if_success (apply cH_));(fail_if_success (apply uR_));apply Or.inl)|(apply rn_;exact rm_;exact me_)|(apply mt_;exact me_)|(apply ob0_;first|exact obc_)|(apply And.intro<;>(intro h;have hc:=h;try simp only [bs]at h))|(intro h;(try (unfold und at h;conv at h=>whnf));try simp only [bs]at h)|(apply wr0_;exact wrc_)|(apply wg0_;exact wgc_))
  all_goals (conv=>whnf)
  refine Or.inr (Or.inr ⟨[],[9],[],[],[1,7,8],[],?_⟩);conv=>whnf
  refine⟨fun(s:Int×Unit) (t:Unit)=>0≤s.1∧s.1≤l.length∧lp (prB (fun k=>imIns mC (gt 0 l k))) prF l.length 0 ()=lp (prB (fun k=>imIns mC (gt 0 l k))) prF (l.length-s.1.toNat) s.1.toNat (()),fun(s:Int×Unit) (_:Unit)=>(l.length-s.1).toNat,?_⟩
  conv=>whnf
  refine Ini.mk ⟨by(try dsimp only);omega,by(try dsimp only);omega,rfl⟩ me_ ?_
  rintro⟨(k:Int),_⟩ _ ⟨h0,h1,hS⟩
  try dsimp only at h0 h1 hS
  obtain⟨k,rfl⟩:=Int.eq_ofNat_of_zero_le (show(0:Int)≤k by omega)
  rw [Int.toNat_natCast]at hS
  repeat' (refine bc_ fun g_=>?_;(conv at g_=>(arg 1;whnf));refine g_ ?_;clear g_;first|((fail_if_success (apply cH_));(fail_if_success (apply uR_));apply Or.inl)|(apply rn_;exact rm_;exact me_)|(apply mt_;exact me_)|(apply ob0_;first|exact obc_)|(apply And.intro<;>(intro h;have hc:=h;try simp only [bs]at h))|(intro h;(try (unfold und at h;conv at h=>whnf));try simp only [bs]at h)|(apply wr0_;exact wrc_)|(apply wg0_;exact wgc_))
  all_goals (conv=>whnf)
  all_goals first
   |((try dsimp only);refine⟨by omega,by omega,hS.trans ((lp_lt (by omega)).trans ?_)⟩;rw [show((k:Int)+1).toNat=k+1 by omega];symm;unfold prB;(try dsimp only);all_goals exact cl_)
   |((try dsimp only);refine Eq.trans ?_ (hS.trans (lp_lt (by omega))).symm;unfold prB;(try dsimp only);all_goals exact cl_)
   |((try dsimp only);refine Eq.trans ?_ (hS.trans (lp_z (by omega))).symm;unfold prF;(try dsimp only);all_goals exact cl_)
 ·trivial
noncomputable def F_AU:Fact E0:=Fact.co [.lst none 0 [],.clo 57 [] [.fp [.un,.un,.un,.un,.un,.un,.un,.un,.lst none 6 [],.lst none 8 [],.lst none 10 [],.lst none 0 [],.lst none 0 [],.lst none 13 [],.lst none 0 [],.lst none 0 [],.un,.lst none 1 [],.lst none 16 [],.lst none 18 [],.lst none 20 [],.lst none 22 [],.lst none 24 [],.lst none 26 [],.lst none 28 [],.lst none 33 []] 0]] ⟨38,a_CI,by unfold FnOK;kernel_rfl,o_DW⟩
def imStarts (A B:List (TabT 0)) (e c:Int) (lib:Bool):Bool :=
 decide ((A.length:Int)≤4096)&&decide ((B.length:Int)≤4096)&&lp (prB fun k=>imIns c (gt 0 A k)) prF A.length 0 ()&&lp (prB fun k=>imIns c (gt 0 B k)) prF B.length 0 ()&&(decide (e = -1)||(imIns c e&&!lib))
set_option maxHeartbeats 4000000 in
@[reducible] def a_Cm:List SV→PR
 |[.agg [.str mA,.b mB,.i mC,.i mD,.i mE,.str mF,.str mG,.i mH,.lst zI 6 mI,.lst zJ 8 mJ,.lst zK 10 mK,.lst zL 0 mL,.lst zM 0 mM,.lst zN 13 mN,.lst zO 0 mO,.lst zP 0 mP,.i mQ,.lst zR 1 mR,.lst zS 16 mS,.lst zT 18 mT,.lst zU 20 mU,.lst zV 22 mV,.lst zW 24 mW,.lst zX 26 mX,.lst zY 28 mY,.lst zZ 33 mZ]]=>.ok (.b (imStarts mO mP mQ mC mB))
 |_=>.no
set_option maxHeartbeats 4000000 in
theorem o_EA:FOK 18 a_Cm:=by
 intro args m ids vs hG hm hv;unfold a_Cm;split
 ·rename_i mA mB mC mD mE mF mG mH zI mI zJ mJ zK mK zL mL zM mM zN mN zO mO zP mP mQ zR mR zS mS zT mT zU mU zV mV zW mW zX mX zY mY zZ mZ;refine calls_fact (DB:=[F_AU,F_Ao]) (IL:=[]) (WL:=[]) (fn:=Proofs.Tryz.f18) rfl rfl rfl rfl rfl rfl (fun hk=>?_) m ids vs hG hm hv
  clear hG hm hv
  repeat' (refine bc_ fun g_=>?_;(conv at g_=>(arg 1;whnf));refine g_ ?_;clear g_;first|((fail_if_success (apply cH_));(fail_if_success (apply uR_));apply Or.inl)|(apply rn_;exact rm_;exact me_)|(apply mt_;exact me_)|(apply ob0_;first|exact obc_)|(apply And.intro<;>(intro h;have hc:=h;try simp only [bs]at h))|(intro h;(try (unfold und at h;conv at h=>whnf));try simp only [bs]at h)|(apply wr0_;exact wrc_)|(apply wg0_;exact wgc_))
  all_goals (conv=>whnf)
  all_goals first|exact rfl
 ·trivial
noncomputable def F_BA:Fact E0:=Fact.co [.agg [.un,.un,.un,.un,.un,.un,.un,.un,.lst none 6 [],.lst none 8 [],.lst none 10 [],.lst none 0 [],.lst none 0 [],.lst none 13 [],.lst none 0 [],.lst none 0 [],.un,.lst none 1 [],.lst none 16 [],.lst none 18 [],.lst none 20 [],.lst none 22 [],.lst none 24 [],.lst none 26 [],.lst none 28 [],.lst none 33 []]] ⟨18,a_Cm,by unfold FnOK;kernel_rfl,o_EA⟩
end Go.SX
