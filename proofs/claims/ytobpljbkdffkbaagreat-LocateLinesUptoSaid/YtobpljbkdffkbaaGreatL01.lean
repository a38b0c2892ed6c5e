/- A part of the proof (texts LocQ, LocN). -/
import Derived.Test.YtobpljbkdffkbaaGreatP16
import Derived.Test.YtobpljbkdffkbaaGreatP30
set_option linter.all false
set_option maxRecDepth 100000
namespace Go.SX
open Go.XK Go.RowKit Go.LocateLaw
section
variable {m:TImage} (R:RowsOk m)
theorem ofT_asc (f:ByteArray) (n:Int):List.Pairwise (α:=Int) (· < ·) (ofT m f n):=by
 have hs:((addrS (infOf m) f n).mergeSort fun x y=>decide (x≤y)).Pairwise (·≤·):=by
   have:=List.pairwise_mergeSort (le:=fun x y:Int=>decide (x≤y)) (by intro a b c;simp;omega) (by intro a b;simp;omega) (addrS (infOf m) f n)
   exact this.imp fun h=>by simpa using h
 exact(upTo_spec _ hs _ (Nat.le_refl _)).1
theorem ofT_has {i:Nat} (hi:i<m.Info.Lines.length):(lnA m i).At∈(show List Int from ofT m (lnA m i).File (lnA m i).Line):=by
 have hs:((addrS (infOf m) (lnA m i).File (lnA m i).Line).mergeSort fun x y=>decide (x≤y)).Pairwise (·≤·):=by
   have:=List.pairwise_mergeSort (le:=fun x y:Int=>decide (x≤y)) (by intro a b c;simp;omega) (by intro a b;simp;omega) (addrS (infOf m) (lnA m i).File (lnA m i).Line)
   exact this.imp fun h=>by simpa using h
 have hm:(lnA m i).At∈addrS (infOf m) (lnA m i).File (lnA m i).Line:=by
   unfold addrS;refine List.mem_map.2 ⟨toLn (lnA m i),List.mem_filter.2 ⟨List.mem_map.2 ⟨lnA m i,?_,rfl⟩,?_⟩,rfl⟩
   ·rw [lnA_get hi];exact List.getElem_mem hi
   ·simp [lnOf,toLn]
 obtain⟨j,hj,e⟩:=List.getElem_of_mem (List.mem_mergeSort.2 hm:_∈(addrS (infOf m) (lnA m i).File (lnA m i).Line).mergeSort fun x y=>decide (x≤y))
 exact((upTo_spec _ hs _ (Nat.le_refl _)).2 _).2 ⟨j,hj,hj,e⟩
theorem of_lt {l:List (TabT 0)} (h:List.Pairwise (α:=Int) (· < ·) l) {i j:Nat} (hij:i<j) (hj:j<List.length (α:=TabT 0) l):(show Int from gt 0 l i)<(show Int from gt 0 l j):=by
 rw [gt_get (c:=0) hj,gt_get (c:=0) (Nat.lt_trans hij hj)];exact List.pairwise_iff_getElem.1 h i j (Nat.lt_trans hij hj) hj hij
theorem of_idx {l:List (TabT 0)} {x:Int} (h:x∈(show List Int from l)):∃ j,j<List.length (α:=TabT 0) l∧(show Int from gt 0 l j)=x:=by
 obtain⟨j,hj,e⟩:=List.getElem_of_mem h;exact⟨j,hj,by rw [gt_get (c:=0) hj];exact e⟩
include R in
theorem line_last {i:Nat} (hi:i<m.Info.Lines.length) {s p:Int} (h1:s≤(lnA m i).At) (h2:(lnA m i).At≤p):∃ k,k<m.Info.Lines.length∧i≤k∧(lnA m i).At≤(lnA m k).At∧(lnA m k).At≤p∧((infOf m).lines.filter (lnP s p)).getLast? = some (toLn (lnA m k)):=by
 have hil:i<(infOf m).lines.length:=by simpa [infOf] using hi
 have hig:(infOf m).lines[i]=toLn (lnA m i):=by rw [lnA_get hi];simp [infOf]
 obtain⟨k,hk,hik,hp,hl⟩:=filter_last (lnP s p) (infOf m).lines i hil (by
   rw [hig];simp only [lnP,Bool.and_eq_true,decide_eq_true_eq]
   exact⟨h1,h2⟩)
 have hkl:k<m.Info.Lines.length:=by simpa [infOf] using hk
 have hkg:(infOf m).lines[k]=toLn (lnA m k):=by rw [lnA_get hkl];simp [infOf]
 rw [hkg]at hp hl;simp only [lnP,Bool.and_eq_true,decide_eq_true_eq]at hp;exact⟨k,hkl,hik,R.lines i k hik hkl,hp.2,hl⟩
include R in
theorem at_line {i:Nat} (hi:i<m.Info.Lines.length) (hb:atB (infOf m) (lnA m i).At=true):∃ k,k<m.Info.Lines.length∧(lnA m k).At=(lnA m i).At∧(lnA m k).File=(atS (infOf m) (lnA m i).At).file∧(lnA m k).Line=(atS (infOf m) (lnA m i).At).line:=by
 unfold atB at hb;obtain⟨sp,hsp⟩:=Option.isSome_iff_exists.1 hb;have hin:inSp (lnA m i).At sp=true:=List.find?_some hsp;simp only [inSp,Bool.and_eq_true,decide_eq_true_eq]at hin;obtain⟨k,h1,h2,h3,h4,h5⟩:=line_last R hi hin.1 (Int.le_refl _);refine⟨k,h1,by omega,?_⟩
 rw [atS,hsp];show _=fileS (lineS (infOf m) sp _)∧_=linS (lineS (infOf m) sp _);unfold lineS;rw [h5];exact⟨rfl,rfl⟩
theorem one_of {E:List (TabT 22)} {a b:Int}:∀ {n k:Nat},lp (oneB E a b) oneF n k ()=true→∃ j,k≤j∧j<k+n∧(gt 22 E j).At≤a∧a<IntKind.i64.wrap ((gt 22 E j).At+(gt 22 E j).Size)∧(gt 22 E j).At≤b∧b<IntKind.i64.wrap ((gt 22 E j).At+(gt 22 E j).Size)
 |0,_,h=>by cases h
 |n+1,k,h=>by
   rw [lp]at h;unfold oneB at h
   cases hp:(decide ((gt 22 E k).At≤a)&&decide (a<IntKind.i64.wrap ((gt 22 E k).At+(gt 22 E k).Size)))with
   |false =>
     rw [hp]at h;obtain⟨j,h1,h2,h3⟩:=one_of h;exact⟨j,by omega,by omega,h3⟩
   |true =>
     rw [hp]at h;have h:(decide (b<IntKind.i64.wrap ((gt 22 E k).At+(gt 22 E k).Size))&&decide ((gt 22 E k).At≤b))=true:=h;simp only [Bool.and_eq_true,decide_eq_true_eq]at hp h;exact⟨k,Nat.le_refl _,by omega,hp.1,hp.2,h.2,h.1⟩
include R in
theorem in_uniq {i j:Nat} {p:Int} (hi:i<m.Info.Ends.length) (hj:j<m.Info.Ends.length) (h1:(enA m i).At≤p) (h2:p<IntKind.i64.wrap ((enA m i).At+(enA m i).Size)) (h3:(enA m j).At≤p) (h4:p<IntKind.i64.wrap ((enA m j).At+(enA m j).Size)):i=j:=by
 have a1:=R.ends i hi;have a2:=R.ends j hj;rw [wrap_id (by unfold InR;omega)]at h2 h4
 rcases Nat.lt_trichotomy i j with h|h|h
 ·have:=R.apart i j h hj;omega
 ·exact h
 ·have:=R.apart j i h hi;omega
include R in
theorem next_line {i:Nat} (hi:i<m.Info.Lines.length) {off:Int} (h0:0≤off) (h1:off≤100000) (hb:atB (infOf m) (IntKind.i64.wrap ((lnA m i).At+off))=true) (ho:oneS m.Info.Ends (lnA m i).At (IntKind.i64.wrap ((lnA m i).At+off))=true)
   (ha:∀ k,k<m.Info.Lines.length→((lnA m k).At≤(lnA m i).At∨off<0∨IntKind.i64.wrap ((lnA m i).At+off)<(lnA m k).At)∧(k=i∨(lnA m k).At≠(lnA m i).At)):(atS (infOf m) (IntKind.i64.wrap ((lnA m i).At+off))).file=(lnA m i).File∧(atS (infOf m) (IntKind.i64.wrap ((lnA m i).At+off))).line=(lnA m i).Line:=by
 have hx:=R.lineAt i hi;rw [wrap_id (show InR ((lnA m i).At+off)by unfold InR;omega)]at hb ho ha ⊢
 unfold atB at hb;obtain⟨sp,hsp⟩:=Option.isSome_iff_exists.1 hb;obtain⟨hin,a,hal,hax,_⟩:=List.find?_eq_some_iff_getElem.1 hsp;have hal':a<m.Info.Ends.length:=by simpa [infOf] using hal
 have hag:sp=toSp (enA m a):=by rw [← hax,enA_get hal'];simp [infOf]
 rw [hag]at hin;simp only [inSp,Bool.and_eq_true,decide_eq_true_eq]at hin;obtain⟨j,_,hj,o1,o2,o3,o4⟩:=one_of ho;have hj':j<m.Info.Ends.length:=by rw [Nat.zero_add]at hj;exact hj
 have hs:(enA m a).At≤(lnA m i).At:=by
   have e:=in_uniq R hal' hj' hin.1 hin.2 o3 o4;subst e;exact o1
 obtain⟨k,h3,h4,h5,h6,h7⟩:=line_last R hi (s:=sp.at_) (p:=(lnA m i).At+off) (by rw [hag];exact hs) (by omega)
 obtain⟨b1,b2⟩:=ha k h3
 have e:k=i:=by
   rcases b2 with b2|b2
   ·exact b2
   ·omega
 subst e;rw [atS,hsp];show fileS (lineS (infOf m) sp _)=_∧linS (lineS (infOf m) sp _)=_;unfold lineS;rw [h7];exact⟨rfl,rfl⟩
end
end Go.SX
namespace Go.SX
open Go.XK Go.RowKit Go.LocateLaw
set_option maxHeartbeats 16000000 in
@[reducible] def a_Cr:List SV→PR
 |[.agg [.str mA,.b mB,.i mC,.i mD,.i mE,.str mF,.str mG,.i mH,.lst zI 6 mI,.lst zJ 8 mJ,.lst zK 10 mK,.lst zL 0 mL,.lst zM 0 mM,.lst zN 13 mN,.lst zO 0 mO,.lst zP 0 mP,.i mQ,.lst zR 1 mR,.lst zS 16 mS,.lst zT 18 mT,.lst zU 20 mU,.lst zV 22 mV,.lst zW 24 mW,.lst zX 26 mX,.lst zY 28 mY,.lst zZ 33 mZ],.i i,.i off]=>.ob (ImOk (⟨mA,mB,mC,mD,mE,mF,mG,mH,mI,mJ,mK,mL,mM,mN,mO,mP,mQ,mR,mS,⟨mT,mU,mV,mW,mX,mY⟩,mZ⟩:TImage)) (.b true)
 |_=>.no
set_option maxHeartbeats 16000000 in
theorem o_EF:FOK 3 a_Cr:=by
 intro args m ids vs hG hm hv;unfold a_Cr;split
 ·rename_i mA mB mC mD mE mF mG mH zI mI zJ mJ zK mK zL mL zM mM zN mN zO mO zP mP mQ zR mR zS mS zT mT zU mU zV mV zW mW zX mX zY mY zZ mZ i off;intro hb;refine calls_fact (DB:=[F_BI,F_BG,F_BH,F_AK,F_BL,F_BJ]) (IL:=[]) (WL:=[]) (fn:=Proofs.Tryz.f3) rfl rfl rfl rfl rfl rfl (fun hk=>?_) m ids vs hG hm hv
  clear hG hm hv
  repeat' (refine bc_ fun g_=>?_;(conv at g_=>(arg 1;whnf));refine g_ ?_;clear g_;first|((fail_if_success (apply cH_));(fail_if_success (apply uR_));apply Or.inl)|(apply rn_;exact rm_;exact me_)|(apply mt_;exact me_)|((fail_if_success (fail_if_success (apply Exists.intro)));first|(refine ⟨[1,1,1,1,1,0,1,0,1,1,1],[0,1,2,3,4,6,5,7,8,9,10],(by decide +kernel),?_⟩;(conv=>whnf);(fail_if_success (apply fa_)))|(refine ⟨[1,1,1,1,1,1,1,0,1,1,1,0,1,1],[0,1,2,3,4,5,6,8,9,10,7,11,12,13],(by decide +kernel),?_⟩;(conv=>whnf);(fail_if_success (apply fa_))))|(apply ob0_;first|(exact fun _=>hb)|(exact hb)|(exact h60)|(exact fun _=>h60)|(exact fun _=>⟨by omega,by omega⟩)|exact obc_|(intro hq<;>(try (conv at hq=>whnf))<;>simp only [bs]at hq<;>(try simp only [Int.toNat_natCast])<;>omega))|(apply And.intro<;>(intro h;have hc:=h;(try exact nc3_ hc);(try exact nc4_ hc);try simp only [bs]at h))|(intro h;(try (unfold und at h;conv at h=>whnf));try simp only [bs]at h)|(apply wr0_;exact wrc_)|(apply wg0_;exact wgc_)|((fail_if_success (fail_if_success (apply Exists.intro)));first|refine Exists.intro _ (And.intro rfl ?_)|refine Exists.intro _ (And.intro (fun _=>rfl) ?_)))
  all_goals (conv=>whnf)
  all_goals (first|rfl|skip)
  have R:RowsOk (⟨mA,mB,mC,mD,mE,mF,mG,mH,mI,mJ,mK,mL,mM,mN,mO,mP,mQ,mR,mS,⟨mT,mU,mV,mW,mX,mY⟩,mZ⟩:TImage):=rows_ok h.2;have h60:List.length (α:=TabT 24) mW≤60:=by have:=h.1.1.1.1.2;omega
  have hil:i.toNat<List.length (α:=TabT 20) mU:=by have:=h.1.1.2;have:=h.1.2;omega
  have fa:∀ a b:Nat,a<b→b<List.length (α:=TabT 0) (ofT (⟨mA,mB,mC,mD,mE,mF,mG,mH,mI,mJ,mK,mL,mM,mN,mO,mP,mQ,mR,mS,⟨mT,mU,mV,mW,mX,mY⟩,mZ⟩:TImage) (gt 20 mU i.toNat).File (gt 20 mU i.toNat).Line)→(show Int from gt 0 (ofT (⟨mA,mB,mC,mD,mE,mF,mG,mH,mI,mJ,mK,mL,mM,mN,mO,mP,mQ,mR,mS,⟨mT,mU,mV,mW,mX,mY⟩,mZ⟩:TImage) (gt 20 mU i.toNat).File (gt 20 mU i.toNat).Line) a)<(show Int from gt 0 (ofT (⟨mA,mB,mC,mD,mE,mF,mG,mH,mI,mJ,mK,mL,mM,mN,mO,mP,mQ,mR,mS,⟨mT,mU,mV,mW,mX,mY⟩,mZ⟩:TImage) (gt 20 mU i.toNat).File (gt 20 mU i.toNat).Line) b):=fun a b h1 h2=>of_lt (ofT_asc _ _) h1 h2
  have fi:∃ j:Nat,j<List.length (α:=TabT 0) (ofT (⟨mA,mB,mC,mD,mE,mF,mG,mH,mI,mJ,mK,mL,mM,mN,mO,mP,mQ,mR,mS,⟨mT,mU,mV,mW,mX,mY⟩,mZ⟩:TImage) (gt 20 mU i.toNat).File (gt 20 mU i.toNat).Line)∧(show Int from gt 0 (ofT (⟨mA,mB,mC,mD,mE,mF,mG,mH,mI,mJ,mK,mL,mM,mN,mO,mP,mQ,mR,mS,⟨mT,mU,mV,mW,mX,mY⟩,mZ⟩:TImage) (gt 20 mU i.toNat).File (gt 20 mU i.toNat).Line) j)=(gt 20 mU i.toNat).At:=of_idx (ofT_has (m:=(⟨mA,mB,mC,mD,mE,mF,mG,mH,mI,mJ,mK,mL,mM,mN,mO,mP,mQ,mR,mS,⟨mT,mU,mV,mW,mX,mY⟩,mZ⟩:TImage)) hil);have fl:atB (infOf (⟨mA,mB,mC,mD,mE,mF,mG,mH,mI,mJ,mK,mL,mM,mN,mO,mP,mQ,mR,mS,⟨mT,mU,mV,mW,mX,mY⟩,mZ⟩:TImage)) (gt 20 mU i.toNat).At=true→∃ k:Nat,k<List.length (α:=TabT 20) mU∧(gt 20 mU k).At=(gt 20 mU i.toNat).At∧(gt 20 mU k).File=(atS (infOf (⟨mA,mB,mC,mD,mE,mF,mG,mH,mI,mJ,mK,mL,mM,mN,mO,mP,mQ,mR,mS,⟨mT,mU,mV,mW,mX,mY⟩,mZ⟩:TImage)) (gt 20 mU i.toNat).At).file∧(gt 20 mU k).Line=(atS (infOf (⟨mA,mB,mC,mD,mE,mF,mG,mH,mI,mJ,mK,mL,mM,mN,mO,mP,mQ,mR,mS,⟨mT,mU,mV,mW,mX,mY⟩,mZ⟩:TImage)) (gt 20 mU i.toNat).At).line:=at_line R hil;have fx:0≤off→off≤100000→atB (infOf (⟨mA,mB,mC,mD,mE,mF,mG,mH,mI,mJ,mK,mL,mM,mN,mO,mP,mQ,mR,mS,⟨mT,mU,mV,mW,mX,mY⟩,mZ⟩:TImage)) (IntKind.i64.wrap ((gt 20 mU i.toNat).At+off))=true→oneS mV (gt 20 mU i.toNat).At (IntKind.i64.wrap ((gt 20 mU i.toNat).At+off))=true→(∀ k:Nat,k<List.length (α:=TabT 20) mU→((gt 20 mU k).At≤(gt 20 mU i.toNat).At∨off<0∨IntKind.i64.wrap ((gt 20 mU i.toNat).At+off)<(gt 20 mU k).At)∧(k=i.toNat∨(gt 20 mU k).At≠(gt 20 mU i.toNat).At))→(atS (infOf (⟨mA,mB,mC,mD,mE,mF,mG,mH,mI,mJ,mK,mL,mM,mN,mO,mP,mQ,mR,mS,⟨mT,mU,mV,mW,mX,mY⟩,mZ⟩:TImage)) (IntKind.i64.wrap ((gt 20 mU i.toNat).At+off))).file=(gt 20 mU i.toNat).File∧(atS (infOf (⟨mA,mB,mC,mD,mE,mF,mG,mH,mI,mJ,mK,mL,mM,mN,mO,mP,mQ,mR,mS,⟨mT,mU,mV,mW,mX,mY⟩,mZ⟩:TImage)) (IntKind.i64.wrap ((gt 20 mU i.toNat).At+off))).line=(gt 20 mU i.toNat).Line:=next_line R hil;refine Or.inr (Or.inr ⟨[],[9,11],[],[],[1,2,3,7,8,10,94,95,99,117,118,119,120,121,122,123,124,125,126,127,128,129,130,131,132,133,134,135,139,140,141,142,143,144,145,146,147,148,149,150,151,152,153,154,155,156,159,160,161,162,163,164,165,166,167,168,184,185,188,189,192,193,196,197,198,199,200,201,202,203,204,209,210,211,212,213,216,217,218,219,220],[],?_⟩);conv=>whnf
  refine⟨fun(s:Bool×Int×Unit) (_:Unit)=>0≤s.2.1∧s.2.1≤List.length (α:=TabT 0) (ofT (⟨mA,mB,mC,mD,mE,mF,mG,mH,mI,mJ,mK,mL,mM,mN,mO,mP,mQ,mR,mS,⟨mT,mU,mV,mW,mX,mY⟩,mZ⟩:TImage) (gt 20 mU i.toNat).File (gt 20 mU i.toNat).Line)∧(s.1=false→∀ j:Nat,j<s.2.1→(show Int from gt 0 (ofT (⟨mA,mB,mC,mD,mE,mF,mG,mH,mI,mJ,mK,mL,mM,mN,mO,mP,mQ,mR,mS,⟨mT,mU,mV,mW,mX,mY⟩,mZ⟩:TImage) (gt 20 mU i.toNat).File (gt 20 mU i.toNat).Line) j)≠(gt 20 mU i.toNat).At),fun(s:Bool×Int×Unit) _=>(List.length (α:=TabT 0) (ofT (⟨mA,mB,mC,mD,mE,mF,mG,mH,mI,mJ,mK,mL,mM,mN,mO,mP,mQ,mR,mS,⟨mT,mU,mV,mW,mX,mY⟩,mZ⟩:TImage) (gt 20 mU i.toNat).File (gt 20 mU i.toNat).Line)-s.2.1).toNat,?_⟩
  conv=>whnf
  refine Ini.mk ⟨by(try dsimp only);omega,by(try dsimp only);omega,fun _ j hj=>absurd hj (by(try dsimp only);omega)⟩ me_ ?_
  rintro⟨(f:Bool),(k:Int),_⟩ _ ⟨h0,h1,hA⟩
  try dsimp only at h0 h1 hA
  obtain⟨k,rfl⟩:=Int.eq_ofNat_of_zero_le h0
  repeat' (refine bc_ fun g_=>?_;(conv at g_=>(arg 1;whnf));refine g_ ?_;clear g_;first|((fail_if_success (apply cH_));(fail_if_success (apply uR_));apply Or.inl)|(apply rn_;exact rm_;exact me_)|(apply mt_;exact me_)|((fail_if_success (fail_if_success (apply Exists.intro)));first|(refine ⟨[1,1,1,1,1,0,1,0,1,1,1],[0,1,2,3,4,6,5,7,8,9,10],(by decide +kernel),?_⟩;(conv=>whnf);(fail_if_success (apply fa_)))|(refine ⟨[1,1,1,1,1,1,1,0,1,1,1,0,1,1],[0,1,2,3,4,5,6,8,9,10,7,11,12,13],(by decide +kernel),?_⟩;(conv=>whnf);(fail_if_success (apply fa_))))|(apply ob0_;first|(exact fun _=>hb)|(exact hb)|(exact h60)|(exact fun _=>h60)|(exact fun _=>⟨by omega,by omega⟩)|exact obc_|(intro hq<;>(try (conv at hq=>whnf))<;>simp only [bs]at hq<;>(try simp only [Int.toNat_natCast])<;>omega))|(apply And.intro<;>(intro h;have hc:=h;(try exact nc3_ hc);(try exact nc4_ hc);try simp only [bs]at h))|(intro h;(try (unfold und at h;conv at h=>whnf));try simp only [bs]at h)|(apply wr0_;exact wrc_)|(apply wg0_;exact wgc_)|((fail_if_success (fail_if_success (apply Exists.intro)));first|refine Exists.intro _ (And.intro rfl ?_)|refine Exists.intro _ (And.intro (fun _=>rfl) ?_)))
  all_goals (conv=>whnf)
  ·have h3:=fa ((k:Int)-1).toNat k (by omega) (by omega)
   exact absurd h.2 (Int.not_le.2 h3)
  ·(try dsimp only)
   refine⟨by omega,by omega,fun hf j hj=>?_⟩
   obtain⟨hf1,hf2⟩:=Bool.or_eq_false_iff.1 hf;rcases Nat.lt_or_ge j k with hjk|hjk
   ·exact hA hf1 j (by omega)
   ·have e:j=k:=by omega
    subst e;exact @of_decide_eq_false _ (Int.instDecidableEq _ _) hf2
  ·cases f with
   |true=>rfl
   |false =>
     obtain⟨j,j1,j2⟩:=fi;have hlt:(j:Int)<k:=by clear j2 hA;omega
     exact(hA rfl j hlt j2).elim
  have hsp:atB (infOf (⟨mA,mB,mC,mD,mE,mF,mG,mH,mI,mJ,mK,mL,mM,mN,mO,mP,mQ,mR,mS,⟨mT,mU,mV,mW,mX,mY⟩,mZ⟩:TImage)) (gt 20 mU i.toNat).At=true:=h.2;have fl:=fl hsp;refine Or.inr (Or.inr ⟨[],[14,15,16],[],[],[1,2,3,7,8,12,184,185,188,189,192,193,196,197,198,199,200,201,202,203,204,209,210,211,212,213,216,217,218,219,220],[],?_⟩);conv=>whnf
  refine⟨fun(s:Bool×Bool×Int×Unit) (_:Unit)=>0≤s.2.2.1∧s.2.2.1≤List.length (α:=TabT 20) mU∧(s.1=false→∀ j:Nat,j<s.2.2.1→¬ ((gt 20 mU j).At=(gt 20 mU i.toNat).At∧(gt 20 mU j).File=(atS (infOf (⟨mA,mB,mC,mD,mE,mF,mG,mH,mI,mJ,mK,mL,mM,mN,mO,mP,mQ,mR,mS,⟨mT,mU,mV,mW,mX,mY⟩,mZ⟩:TImage)) (gt 20 mU i.toNat).At).file∧(gt 20 mU j).Line=(atS (infOf (⟨mA,mB,mC,mD,mE,mF,mG,mH,mI,mJ,mK,mL,mM,mN,mO,mP,mQ,mR,mS,⟨mT,mU,mV,mW,mX,mY⟩,mZ⟩:TImage)) (gt 20 mU i.toNat).At).line)) ∧
    (s.2.1=true→∀ j:Nat,j<s.2.2.1→((gt 20 mU j).At≤(gt 20 mU i.toNat).At∨off<0∨IntKind.i64.wrap ((gt 20 mU i.toNat).At+off)<(gt 20 mU j).At)∧((j:Int)=i∨(gt 20 mU j).At≠(gt 20 mU i.toNat).At)),fun(s:Bool×Bool×Int×Unit) _=>(List.length (α:=TabT 20) mU-s.2.2.1).toNat,?_⟩
  conv=>whnf
  refine Ini.mk ⟨by(try dsimp only);omega,by(try dsimp only);omega,fun _ j hj=>absurd hj (by(try dsimp only);omega),fun _ j hj=>absurd hj (by(try dsimp only);omega)⟩ me_ ?_
  rintro⟨(sm:Bool),(al:Bool),(q:Int),_⟩ _ ⟨q0,q1,hS,hL⟩
  try dsimp only at q0 q1 hS hL
  obtain⟨q,rfl⟩:=Int.eq_ofNat_of_zero_le q0
  repeat' (refine bc_ fun g_=>?_;(conv at g_=>(arg 1;whnf));refine g_ ?_;clear g_;first|((fail_if_success (apply cH_));(fail_if_success (apply uR_));apply Or.inl)|(apply rn_;exact rm_;exact me_)|(apply mt_;exact me_)|((fail_if_success (fail_if_success (apply Exists.intro)));first|(refine ⟨[1,1,1,1,1,0,1,0,1,1,1],[0,1,2,3,4,6,5,7,8,9,10],(by decide +kernel),?_⟩;(conv=>whnf);(fail_if_success (apply fa_)))|(refine ⟨[1,1,1,1,1,1,1,0,1,1,1,0,1,1],[0,1,2,3,4,5,6,8,9,10,7,11,12,13],(by decide +kernel),?_⟩;(conv=>whnf);(fail_if_success (apply fa_))))|(apply ob0_;first|(exact fun _=>hb)|(exact hb)|(exact h60)|(exact fun _=>h60)|(exact fun _=>⟨by omega,by omega⟩)|exact obc_|(intro hq<;>(try (conv at hq=>whnf))<;>simp only [bs]at hq<;>(try simp only [Int.toNat_natCast])<;>omega))|(apply And.intro<;>(intro h;have hc:=h;(try exact nc3_ hc);(try exact nc4_ hc);try simp only [bs]at h))|(intro h;(try (unfold und at h;conv at h=>whnf));try simp only [bs]at h)|(apply wr0_;exact wrc_)|(apply wg0_;exact wgc_)|((fail_if_success (fail_if_success (apply Exists.intro)));first|refine Exists.intro _ (And.intro rfl ?_)|refine Exists.intro _ (And.intro (fun _=>rfl) ?_)))
  all_goals (conv=>whnf)
  ·(try dsimp only)
   refine⟨by omega,by omega,fun hf j hj=>?_,fun ht j hj=>?_⟩
   ·obtain⟨hf1,hf2⟩:=Bool.or_eq_false_iff.1 hf;rcases Nat.lt_or_ge j q with hjk|hjk
    ·exact hS hf1 j (by omega)
    ·have e:j=q:=by omega
     subst e;rintro⟨a,b,c⟩;exact absurd (Eq.trans (Eq.symm hf2) (Bool.and_eq_true_iff.2 ⟨Bool.and_eq_true_iff.2 ⟨decide_eq_true a,decide_eq_true b⟩,decide_eq_true c⟩)) (by decide)
   ·obtain⟨hta,ht3⟩:=Bool.and_eq_true_iff.1 ht;obtain⟨ht1,ht2⟩:=Bool.and_eq_true_iff.1 hta;rcases Nat.lt_or_ge j q with hjk|hjk
    ·exact hL ht1 j (by omega)
    ·have e:j=q:=by omega
     subst e;constructor
     ·rcases Bool.or_eq_true_iff.1 ht2 with h|h
      ·rcases Bool.or_eq_true_iff.1 h with h|h
       ·exact .inl (of_decide_eq_true h)
       ·exact .inr (.inl (of_decide_eq_true h))
      ·exact .inr (.inr (of_decide_eq_true h))
     ·rcases Bool.or_eq_true_iff.1 ht3 with h|h
      ·exact .inl (of_decide_eq_true h)
      ·exact .inr (of_decide_eq_false (show decide _=false by cases hd:decide ((gt 20 mU j).At=(gt 20 mU i.toNat).At)with|false=>rfl|true=>rw [Int.toNat_natCast,hd]at h;cases h))
  ·obtain⟨j,j1,j2⟩:=fl;have hlt:(j:Int)<q:=by clear j2 hS hL;omega
   exact(hS h j hlt j2).elim
  ·obtain⟨e1,e2⟩:=fx (by omega) (by omega) h.1.2 h.2 (fun k hk=>by
     obtain⟨b1,b2⟩:=hL h.1.1.1.1 k (by omega)
     exact⟨b1,b2.imp (fun e=>by omega) id⟩)
   exact Bool.and_eq_true_iff.2 ⟨Bool.and_eq_true_iff.2 ⟨rfl,decide_eq_true e1⟩,decide_eq_true e2⟩
 ·trivial
noncomputable def F_BF:Fact E0:=Fact.co [.agg [.un,.un,.un,.un,.un,.un,.un,.un,.lst none 6 [],.lst none 8 [],.lst none 10 [],.lst none 0 [],.lst none 0 [],.lst none 13 [],.lst none 0 [],.lst none 0 [],.un,.lst none 1 [],.lst none 16 [],.lst none 18 [],.lst none 20 [],.lst none 22 [],.lst none 24 [],.lst none 26 [],.lst none 28 [],.lst none 33 []],.un,.un] ⟨3,a_Cr,by unfold FnOK;kernel_rfl,o_EF⟩
end Go.SX
