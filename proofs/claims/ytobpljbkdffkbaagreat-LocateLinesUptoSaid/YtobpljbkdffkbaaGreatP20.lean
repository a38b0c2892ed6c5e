/- A part of the proof (texts LocF). -/
import Derived.Test.YtobpljbkdffkbaaGreatP12
import Derived.Test.YtobpljbkdffkbaaGreatP14
import Derived.Test.YtobpljbkdffkbaaGreatP15
import Derived.Test.YtobpljbkdffkbaaGreatP18
import Derived.Test.YtobpljbkdffkbaaGreatP19
set_option linter.all false
set_option maxRecDepth 100000
namespace Go.SX
open Go.XK Go.RowKit Go.LocateLaw Go.Proofs.YtobpljbkdffkbaaGreat
def toSp (x:TSpan):Sp:=⟨x.At,x.Size⟩
def toMk (x:TMark):Mk:=⟨x.Name,x.Kind,x.At,x.Size⟩
def toLn (x:TLine):Ln:=⟨x.Sec,x.At,x.File,x.Line⟩
def toIl (x:TInline):Il:=⟨x.Sec,x.From,x.To,x.Name,x.File,x.Line⟩
def toVr (x:TVar):Vr:=⟨x.Sec,x.From,x.To,x.Name,x.Where,x.N⟩
def infOf (m:TImage):LocateLaw.Inf:=⟨m.Info.Marks.map toMk,m.Info.Lines.map toLn,m.Info.Ends.map toSp,m.Info.Inlines.map toIl,m.Info.Vars.map toVr⟩
theorem lr_ld {α β:Type} {K B:Nat} {D:α→List CP} {f:β→List Value} {g:α→β} {l:List α} {M:Mm} {y:Value} (hD:∀ x us,DL (D x) M us→us=f (g x)) (hf:∀ b,(f b).length=K) (h:LD K B D none l M y):LR K f M.w y (l.map g):=by
 obtain⟨uss,h1,h2,_⟩:=h
 have e:uss=(l.map g).map f:=by
   apply List.ext_getElem (by simp [h2.1])
   intro i h3 h4;have hi:i<l.length:=by rw [← h2.1];exact h3
   obtain⟨us,h5,h6⟩:=h2.2.2 i l[i] (List.getElem?_eq_getElem hi);rw [List.getElem?_eq_getElem h3]at h5;rw [Option.some.inj h5,hD _ _ h6];simp
 refine LR.of_map hf ?_;rw [List.length_map,← e];exact h1
theorem DL.get {M:Mm}:∀ {cps:List CP} {us:List Value} {i:Nat} {c:CP},DL cps M us→cps[i]?=some c→∃ u,us[i]?=some u∧c.p M u
 |[],_,_,_,_,h=>by cases h
 |_::_,_,0,_,⟨u,us',h1,h2,h3⟩,h=>by cases h;exact⟨u,by rw [h1];rfl,h2⟩
 |_::_,_,i+1,_,⟨u,us',h1,h2,h3⟩,h=>by
   rw [h1];exact DL.get (i:=i) h3 h
theorem cells_toSp {M:Mm} (x:TSpan) (us:List Value) (h:DL (TD22 x) M us):us=spC (toSp x):=by
 obtain⟨_,_,rfl,h0,h⟩:=h;obtain⟨_,_,rfl,h1,h⟩:=h;cases h;obtain⟨rfl,_⟩:=h0;obtain⟨rfl,_⟩:=h1;rfl
theorem cells_toMk {M:Mm} (x:TMark) (us:List Value) (h:DL (TD18 x) M us):us=mkC (toMk x):=by
 obtain⟨_,_,rfl,h0,h⟩:=h;obtain⟨_,_,rfl,h1,h⟩:=h;obtain⟨_,_,rfl,h2,h⟩:=h;obtain⟨_,_,rfl,h3,h⟩:=h;cases h;obtain⟨rfl,_⟩:=h0;obtain⟨rfl,_⟩:=h1;obtain⟨rfl,_⟩:=h2;obtain⟨rfl,_⟩:=h3;rfl
theorem cells_toLn {M:Mm} (x:TLine) (us:List Value) (h:DL (TD20 x) M us):us=lnC (toLn x):=by
 obtain⟨_,_,rfl,h0,h⟩:=h;obtain⟨_,_,rfl,h1,h⟩:=h;obtain⟨_,_,rfl,h2,h⟩:=h;obtain⟨_,_,rfl,h3,h⟩:=h;cases h;obtain⟨rfl,_⟩:=h0;obtain⟨rfl,_⟩:=h1;obtain⟨rfl,_⟩:=h2;obtain⟨rfl,_⟩:=h3;rfl
theorem cells_toIl {M:Mm} (x:TInline) (us:List Value) (h:DL (TD24 x) M us):us=ilC (toIl x):=by
 obtain⟨_,_,rfl,h0,h⟩:=h;obtain⟨_,_,rfl,h1,h⟩:=h;obtain⟨_,_,rfl,h2,h⟩:=h;obtain⟨_,_,rfl,h3,h⟩:=h;obtain⟨_,_,rfl,h4,h⟩:=h;obtain⟨_,_,rfl,h5,h⟩:=h;cases h;obtain⟨rfl,_⟩:=h0;obtain⟨rfl,_⟩:=h1;obtain⟨rfl,_⟩:=h2;obtain⟨rfl,_⟩:=h3;obtain⟨rfl,_⟩:=h4;obtain⟨rfl,_⟩:=h5;rfl
theorem cells_toVr {M:Mm} (x:TVar) (us:List Value) (h:DL (TD26 x) M us):us=vrC (toVr x):=by
 obtain⟨_,_,rfl,h0,h⟩:=h;obtain⟨_,_,rfl,h1,h⟩:=h;obtain⟨_,_,rfl,h2,h⟩:=h;obtain⟨_,_,rfl,h3,h⟩:=h;obtain⟨_,_,rfl,h4,h⟩:=h;obtain⟨_,_,rfl,h5,h⟩:=h;cases h;obtain⟨rfl,_⟩:=h0;obtain⟨rfl,_⟩:=h1;obtain⟨rfl,_⟩:=h2;obtain⟨rfl,_⟩:=h3;obtain⟨rfl,_⟩:=h4;obtain⟨rfl,_⟩:=h5;rfl
theorem inf_dl {m:TImage} {M:Mm} {cs:List Value} (h:DL (TD35 m) M cs):InfC M.w cs (infOf m):=by
 obtain⟨v0,e0,q0⟩:=h.get (i:=19) rfl;obtain⟨v1,e1,q1⟩:=h.get (i:=20) rfl;obtain⟨v2,e2,q2⟩:=h.get (i:=21) rfl;obtain⟨v3,e3,q3⟩:=h.get (i:=22) rfl;obtain⟨v4,e4,q4⟩:=h.get (i:=23) rfl;exact⟨by rw [h.len];rfl,⟨v0,e0,lr_ld cells_toMk mkL q0⟩,⟨v1,e1,lr_ld cells_toLn lnL q1⟩,⟨v2,e2,lr_ld cells_toSp spL q2⟩,⟨v3,e3,lr_ld cells_toIl ilL q3⟩,⟨v4,e4,lr_ld cells_toVr vrL q4⟩,h.one⟩
theorem ld_mem {α:Type} {K B:Nat} {D:α→List CP} {z:Option Bool} {l:List α} {M:Mm} {y:Value} (h:LD K B D z l M y) {x:α} (hx:x∈l):∃ us,DL (D x) M us:=by
 obtain⟨uss,h1,h2,_⟩:=h;obtain⟨i,hi,rfl⟩:=List.getElem_of_mem hx;obtain⟨us,_,h6⟩:=h2.2.2 i l[i] (List.getElem?_eq_getElem hi);exact⟨us,h6⟩
theorem inR0:InR 0:=by unfold InR;omega
theorem mk_inR {M:Mm} {x:TMark} {us:List Value} (h:DL (TD18 x) M us):InR x.At:=by
 obtain⟨_,_,_,_,_,_,_,_,_,_,_,h2,_⟩:=h;exact h2.2
theorem ln_inR {M:Mm} {x:TLine} {us:List Value} (h:DL (TD20 x) M us):InR x.At∧InR x.Line∧(x.File.size:Int)≤STRMAX:=by
 obtain⟨_,_,_,_,_,_,_,h1,_,_,_,h2,_,_,_,h3,_⟩:=h;exact⟨h1.2,h3.2,h2.2⟩
theorem mkn_le {M:Mm} {x:TMark} {us:List Value} (h:DL (TD18 x) M us):(x.Name.size:Int)≤STRMAX:=by
 obtain⟨_,_,_,h2,_⟩:=h;exact h2.2
theorem low_le {m:Mm} {w':World} (hm:∀ b,m.S b→b<m.w.heap.size) (h:Ext m.w w') {T:Nat→Prop} (hT:∀ b,m.S b→T b):m.le ⟨w',T⟩:=⟨fun b hb=>⟨hT b hb,h.block b (hm b hb)⟩,h.size⟩
theorem findAt_inR {m:TImage} {M:Mm} {cs:List Value} (h:DL (TD35 m) M cs) (s:ByteArray):InR (findAt (infOf m) s):=by
 unfold findAt;split
 ·rename_i x hx;obtain⟨v0,e0,q0⟩:=h.get (i:=19) rfl;have hm:=List.mem_of_find?_eq_some hx;obtain⟨y,hy,rfl⟩:=List.mem_map.1 hm;obtain⟨us,hd⟩:=ld_mem q0 hy;exact mk_inR hd
 ·exact inR0
@[reducible] def a_Cw:List SV→PR
 |[.agg [.str mA,.b mB,.i mC,.i mD,.i mE,.str mF,.str mG,.i mH,.lst zI 6 mI,.lst zJ 8 mJ,.lst zK 10 mK,.lst zL 0 mL,.lst zM 0 mM,.lst zN 13 mN,.lst zO 0 mO,.lst zP 0 mP,.i mQ,.lst zR 1 mR,.lst zS 16 mS,.lst zT 18 mT,.lst zU 20 mU,.lst zV 22 mV,.lst zW 24 mW,.lst zX 26 mX,.lst zY 28 mY,.lst zZ 33 mZ],.str s]=>.ok (.tup [.i (findAt (infOf (⟨mA,mB,mC,mD,mE,mF,mG,mH,mI,mJ,mK,mL,mM,mN,mO,mP,mQ,mR,mS,⟨mT,mU,mV,mW,mX,mY⟩,mZ⟩:TImage)) s),.b (findB (infOf (⟨mA,mB,mC,mD,mE,mF,mG,mH,mI,mJ,mK,mL,mM,mN,mO,mP,mQ,mR,mS,⟨mT,mU,mV,mW,mX,mY⟩,mZ⟩:TImage)) s)])
 |_=>.no
theorem o_EK:FOK 11 a_Cw:=by
 intro args m ids vs hG hm hv;unfold a_Cw;split
 ·rename_i mA mB mC mD mE mF mG mH zI mI zJ mJ zK mK zL mL zM mM zN mN zO mO zP mP mQ zR mR zS mS zT mT zU mU zV mV zW mW zX mX zY mY zZ mZ s;rw [DenL]at hv;obtain⟨u,us',rfl,h1,h2⟩:=hv;rw [Den]at h1;obtain⟨cs,rfl,h3⟩:=h1;have hD:=DC35_ok (x:=(⟨mA,mB,mC,mD,mE,mF,mG,mH,mI,mJ,mK,mL,mM,mN,mO,mP,mQ,mR,mS,⟨mT,mU,mV,mW,mX,mY⟩,mZ⟩:TImage)) rfl h3;rw [DenL]at h2;obtain⟨u2,us2,rfl,h4,h5⟩:=h2;rw [DenL]at h5;subst h5;rw [Den]at h4;obtain⟨rfl,_⟩:=h4;refine(find_any cs _ s m.w (inf_dl hD)).mono fun e w' ⟨he,hx⟩=>⟨_,m.S,he,hx,low_le hm hx fun _ h=>h,fun b hb=>⟨Nat.lt_of_lt_of_le (hm b hb) hx.size,.inl hb⟩,?_⟩
  rw [Den];refine⟨_,rfl,?_⟩;rw [DenL];refine⟨_,_,rfl,?_,?_⟩
  ·rw [Den];exact⟨rfl,findAt_inR hD s⟩
  rw [DenL];refine⟨_,_,rfl,?_,?_⟩
  ·rw [Den]
  rw [DenL]
 ·trivial
noncomputable def F_BK:Fact E0:=Fact.co [.agg [.un,.un,.un,.un,.un,.un,.un,.un,.lst none 6 [],.lst none 8 [],.lst none 10 [],.lst none 0 [],.lst none 0 [],.lst none 13 [],.lst none 0 [],.lst none 0 [],.un,.lst none 1 [],.lst none 16 [],.lst none 18 [],.lst none 20 [],.lst none 22 [],.lst none 24 [],.lst none 26 [],.lst none 28 [],.lst none 33 []],.un] ⟨11,a_Cw,by unfold FnOK;kernel_rfl,o_EK⟩
def inlI (m:TImage) (p:Int):List TInline:=if atB (infOf m) p=true then(m.Info.Inlines.filter fun x=>ilP p (toIl x)).reverse else []
def inlT (m:TImage) (p:Int):List (TabT 24):=inlI m p
theorem inlT_eq (m:TImage) (p:Int):(inlI m p).map toIl=(atS (infOf m) p).inls:=by
 by_cases hb:atB (infOf m) p=true
 ·rw [at_eq hb];show(inlI m p).map toIl=((m.Info.Inlines.map toIl).filter (ilP p)).reverse;unfold inlI;rw [if_pos hb,List.filter_map,← List.map_reverse];rfl
 ·have hb':atB (infOf m) p=false:=by simpa using hb
  rw [at_no hb'];unfold inlI;rw [if_neg hb];rfl
theorem ilc_dl {M:Mm} {x:TInline} {us:List Value} (h:DL (TD24 x) M us) (N:Mm):DL (TD24 x) N (ilC (toIl x)):=by
 obtain⟨_,_,rfl,h0,h⟩:=h;obtain⟨_,_,rfl,h1,h⟩:=h;obtain⟨_,_,rfl,h2,h⟩:=h;obtain⟨_,_,rfl,h3,h⟩:=h;obtain⟨_,_,rfl,h4,h⟩:=h;obtain⟨_,_,rfl,h5,h⟩:=h;exact⟨_,_,rfl,⟨rfl,h0.2⟩,_,_,rfl,⟨rfl,h1.2⟩,_,_,rfl,⟨rfl,h2.2⟩,_,_,rfl,⟨rfl,h3.2⟩,_,_,rfl,⟨rfl,h4.2⟩,_,_,rfl,⟨rfl,h5.2⟩,rfl⟩
theorem reads_lt {w:World} {K n:Nat} {v:Value} {cs:List Value} (h:Reads w K v n cs) (hn:0<cs.length) {b:Nat} (hb:blkOf v=some b):b<w.heap.size:=by
 rcases h.2 with ⟨_,h0⟩|⟨b',o,c,rfl,_,_,hat⟩
 ·have:=h.1;rw [h0,Nat.zero_mul]at this;omega
 ·cases hb;exact cell_lt (hat 0 _ (List.getElem?_eq_getElem hn))
theorem own_of_blk {v:Value} {b:Nat} (hs:∃ a n c,v=.slice a n c) (h:blkOf v=some b):v.ownBlock=some b:=by
 obtain⟨a,n,c,rfl⟩:=hs
 cases a with
 |none=>cases h
 |some a=>cases h;rfl
theorem ld_new {α β:Type} {K B:Nat} {D:α→List CP} {f:β→List Value} {g:α→β} {l:List α} {w':World} {v:Value} {T:Nat→Prop} (hr:LR K f w' v (l.map g)) (hf:∀ b,(f b).length=K) (hd:∀ x∈l,DL (D x) ⟨w',T⟩ (f (g x))) (hT:∀ b,blkOf v=some b→T b) (hB:l.length*B≤LIM):LD K B D none l ⟨w',T⟩ v:=by
 have h1:=hr.reads;rw [List.length_map]at h1;refine⟨(l.map g).map f,h1,⟨by simp,fun us hu=>?_,fun i x hx=>?_⟩,fun _ b hb=>hT b hb,trivial,hB⟩
 ·obtain⟨y,_,rfl⟩:=List.mem_map.1 hu;exact hf y
 ·exact⟨_,by rw [List.getElem?_map,List.getElem?_map,hx];rfl,hd x (List.mem_of_getElem? hx)⟩
theorem off_inR {m:TImage} {p:Int}:InR (atS (infOf m) p).off:=by
 unfold atS;split
 ·show InR (offS _ _ _);unfold offS;split<;>exact wrap_inR _
 ·exact inR0
theorem func_le {m:TImage} {M:Mm} {cs:List Value} (h:DL (TD35 m) M cs) (p:Int):((atS (infOf m) p).func.size:Int)≤STRMAX:=by
 unfold atS;split
 ·show((funcS (markS _ _ _)).size:Int)≤STRMAX;unfold funcS;split
  ·rename_i x hx;obtain⟨v0,e0,q0⟩:=h.get (i:=19) rfl;unfold markS at hx;obtain⟨y,hy,rfl⟩:=List.mem_map.1 (List.mem_filter.1 (List.mem_of_getLast? hx)).1;obtain⟨us,hd⟩:=ld_mem q0 hy;exact mkn_le hd
  ·decide
 ·decide
theorem line_le {m:TImage} {M:Mm} {cs:List Value} (h:DL (TD35 m) M cs) (p:Int):((atS (infOf m) p).file.size:Int)≤STRMAX∧InR (atS (infOf m) p).line:=by
 unfold atS;split
 ·show((fileS (lineS _ _ _)).size:Int)≤STRMAX∧InR (linS (lineS _ _ _));unfold fileS linS;split
  ·rename_i x hx;obtain⟨v0,e0,q0⟩:=h.get (i:=20) rfl;unfold lineS at hx;obtain⟨y,hy,rfl⟩:=List.mem_map.1 (List.mem_filter.1 (List.mem_of_getLast? hx)).1;obtain⟨us,hd⟩:=ld_mem q0 hy;exact⟨(ln_inR hd).2.2,(ln_inR hd).2.1⟩
  ·exact⟨by decide,inR0⟩
 ·exact⟨by decide,inR0⟩
@[reducible] def a_Cv:List SV→PR
 |[.agg [.str mA,.b mB,.i mC,.i mD,.i mE,.str mF,.str mG,.i mH,.lst zI 6 mI,.lst zJ 8 mJ,.lst zK 10 mK,.lst zL 0 mL,.lst zM 0 mM,.lst zN 13 mN,.lst zO 0 mO,.lst zP 0 mP,.i mQ,.lst zR 1 mR,.lst zS 16 mS,.lst zT 18 mT,.lst zU 20 mU,.lst zV 22 mV,.lst zW 24 mW,.lst zX 26 mX,.lst zY 28 mY,.lst zZ 33 mZ],.i p]=>.ob (List.length (α:=TabT 24) mW≤60) (.tup [.agg [.str (atS (infOf (⟨mA,mB,mC,mD,mE,mF,mG,mH,mI,mJ,mK,mL,mM,mN,mO,mP,mQ,mR,mS,⟨mT,mU,mV,mW,mX,mY⟩,mZ⟩:TImage)) p).func,.i (atS (infOf (⟨mA,mB,mC,mD,mE,mF,mG,mH,mI,mJ,mK,mL,mM,mN,mO,mP,mQ,mR,mS,⟨mT,mU,mV,mW,mX,mY⟩,mZ⟩:TImage)) p).off,.str (atS (infOf (⟨mA,mB,mC,mD,mE,mF,mG,mH,mI,mJ,mK,mL,mM,mN,mO,mP,mQ,mR,mS,⟨mT,mU,mV,mW,mX,mY⟩,mZ⟩:TImage)) p).file,.i (atS (infOf (⟨mA,mB,mC,mD,mE,mF,mG,mH,mI,mJ,mK,mL,mM,mN,mO,mP,mQ,mR,mS,⟨mT,mU,mV,mW,mX,mY⟩,mZ⟩:TImage)) p).line,.lst none 24 (inlT (⟨mA,mB,mC,mD,mE,mF,mG,mH,mI,mJ,mK,mL,mM,mN,mO,mP,mQ,mR,mS,⟨mT,mU,mV,mW,mX,mY⟩,mZ⟩:TImage) p)],.b (atB (infOf (⟨mA,mB,mC,mD,mE,mF,mG,mH,mI,mJ,mK,mL,mM,mN,mO,mP,mQ,mR,mS,⟨mT,mU,mV,mW,mX,mY⟩,mZ⟩:TImage)) p)])
 |_=>.no
theorem o_EJ:FOK 9 a_Cv:=by
 intro args m ids vs hG hm hv;unfold a_Cv;split
 ·rename_i mA mB mC mD mE mF mG mH zI mI zJ mJ zK mK zL mL zM mM zN mN zO mO zP mP mQ zR mR zS mS zT mT zU mU zV mV zW mW zX mX zY mY zZ mZ p;intro h60;rw [DenL]at hv;obtain⟨u,us',rfl,h1,h2⟩:=hv;rw [Den]at h1;obtain⟨cs,rfl,h3⟩:=h1;have hD:=DC35_ok (x:=(⟨mA,mB,mC,mD,mE,mF,mG,mH,mI,mJ,mK,mL,mM,mN,mO,mP,mQ,mR,mS,⟨mT,mU,mV,mW,mX,mY⟩,mZ⟩:TImage)) rfl h3;rw [DenL]at h2;obtain⟨u2,us2,rfl,h4,h5⟩:=h2;rw [DenL]at h5;subst h5;rw [Den]at h4;obtain⟨rfl,_⟩:=h4;generalize hI:((⟨mA,mB,mC,mD,mE,mF,mG,mH,mI,mJ,mK,mL,mM,mN,mO,mP,mQ,mR,mS,⟨mT,mU,mV,mW,mX,mY⟩,mZ⟩:TImage))=I at hD;have hil:(infOf I).inlines.length≤60:=by rw [← hI];show(List.map toIl _).length≤60;rw [List.length_map];exact h60
  refine(at_own cs _ p m.w (inf_dl hD) hil).mono fun e w' ⟨iv,he,hx,hl,hk⟩=>⟨_,fun b=>m.S b∨(blkOf iv=some b∧b<w'.heap.size),he,hx,low_le hm hx fun _ h=>.inl h,fun b hb=>?_,?_⟩
  ·rcases hb with hb|⟨hb,hb2⟩
   ·exact⟨Nat.lt_of_lt_of_le (hm b hb) hx.size,.inl hb⟩
   ·exact⟨hb2,.inr (hk b (own_of_blk hl.isS3 hb))⟩
  rw [Den];refine⟨_,rfl,?_⟩;rw [DenL];refine⟨_,_,rfl,?_,?_⟩
  ·rw [Den];refine⟨sotC (atS (infOf I) p) iv,rfl,?_⟩;have e1:=line_le hD p;rw [DenL];refine⟨_,_,rfl,?_,?_⟩
   ·rw [Den];exact⟨rfl,func_le hD p⟩
   rw [DenL];refine⟨_,_,rfl,?_,?_⟩
   ·rw [Den];exact⟨rfl,off_inR⟩
   rw [DenL];refine⟨_,_,rfl,?_,?_⟩
   ·rw [Den];exact⟨rfl,e1.1⟩
   rw [DenL];refine⟨_,_,rfl,?_,?_⟩
   ·rw [Den];exact⟨rfl,e1.2⟩
   rw [DenL];refine⟨_,_,rfl,?_,by rw [DenL]⟩
   rw [Den];rw [← inlT_eq]at hl;show LD (KT 24) (BT 24) (TabD 24) none (inlI I p) _ iv
   by_cases hn:(inlI I p).length=0
   ·have e0:inlI I p=[]:=List.eq_nil_of_length_eq_zero hn;rw [e0]at hl ⊢;have h1:=hl.reads;exact⟨[],h1,Elts.nil,fun h=>absurd rfl h,trivial,Nat.le_trans (Nat.le_of_eq (Nat.zero_mul _)) (Nat.zero_le _)⟩
   ·refine ld_new (f:=ilC) (g:=toIl) hl ilL (fun x hx=>?_) (fun b hb=>.inr ⟨hb,?_⟩) ?_
    ·obtain⟨v3,e3,q3⟩:=hD.get (i:=22) rfl
     have hx':x∈I.Info.Inlines:=by
       unfold inlI at hx;split at hx
       ·exact(List.mem_filter.1 (List.mem_reverse.1 hx)).1
       ·cases hx
     obtain⟨us,hd⟩:=ld_mem q3 hx';exact ilc_dl hd _
    ·have h1:=hl.reads;refine reads_lt h1 ?_ hb;rw [h1.1,List.length_map];exact Nat.mul_pos (Nat.pos_of_ne_zero hn) (by decide)
    ·have e3:(inlI I p).length≤60:=by
       unfold inlI;split
       ·refine Nat.le_trans (Nat.le_of_eq (List.length_reverse ..)) (Nat.le_trans (List.length_filter_le ..) ?_);rw [← hI];exact h60
       ·exact Nat.zero_le _
     have e4:(inlI I p).length*BT 24≤60*BT 24:=Nat.mul_le_mul_right _ e3;refine Nat.le_trans e4 ?_
     decide
  rw [DenL];exact⟨_,_,rfl,by rw [Den],by rw [DenL]⟩
 ·trivial
noncomputable def F_BJ:Fact E0:=Fact.co [.agg [.un,.un,.un,.un,.un,.un,.un,.un,.lst none 6 [],.lst none 8 [],.lst none 10 [],.lst none 0 [],.lst none 0 [],.lst none 13 [],.lst none 0 [],.lst none 0 [],.un,.lst none 1 [],.lst none 16 [],.lst none 18 [],.lst none 20 [],.lst none 22 [],.lst none 24 [],.lst none 26 [],.lst none 28 [],.lst none 33 []],.un] ⟨9,a_Cv,by unfold FnOK;kernel_rfl,o_EJ⟩
def ofT (m:TImage) (f:ByteArray) (n:Int):List (TabT 0):=(Lib.compact ((addrS (infOf m) f n).mergeSort fun x y=>decide (x≤y)):List Int)
theorem ofT_mem {m:TImage} {f:ByteArray} {n x:Int} (h:x∈(show List Int from ofT m f n)):∃ y∈m.Info.Lines,(show TLine from y).At=x:=by
 have h1:=List.mem_mergeSort.1 (icomp_mem h);unfold addrS at h1;obtain⟨y,hy,rfl⟩:=List.mem_map.1 h1;obtain⟨z,hz,rfl⟩:=List.mem_map.1 (List.mem_filter.1 hy).1;exact⟨z,hz,rfl⟩
@[reducible] def a_Cx:List SV→PR
 |[.agg [.str mA,.b mB,.i mC,.i mD,.i mE,.str mF,.str mG,.i mH,.lst zI 6 mI,.lst zJ 8 mJ,.lst zK 10 mK,.lst zL 0 mL,.lst zM 0 mM,.lst zN 13 mN,.lst zO 0 mO,.lst zP 0 mP,.i mQ,.lst zR 1 mR,.lst zS 16 mS,.lst zT 18 mT,.lst zU 20 mU,.lst zV 22 mV,.lst zW 24 mW,.lst zX 26 mX,.lst zY 28 mY,.lst zZ 33 mZ],.str f,.i n]=>.ob (List.length (α:=TabT 20) mU≤60) (.lst none 0 (ofT (⟨mA,mB,mC,mD,mE,mF,mG,mH,mI,mJ,mK,mL,mM,mN,mO,mP,mQ,mR,mS,⟨mT,mU,mV,mW,mX,mY⟩,mZ⟩:TImage) f n))
 |_=>.no
theorem o_EL:FOK 8 a_Cx:=by
 intro args m ids vs hG hm hv;unfold a_Cx;split
 ·rename_i mA mB mC mD mE mF mG mH zI mI zJ mJ zK mK zL mL zM mM zN mN zO mO zP mP mQ zR mR zS mS zT mT zU mU zV mV zW mW zX mX zY mY zZ mZ f n;intro h60;rw [DenL]at hv;obtain⟨u,us',rfl,h1,h2⟩:=hv;rw [Den]at h1;obtain⟨cs,rfl,h3⟩:=h1;have hD:=DC35_ok (x:=(⟨mA,mB,mC,mD,mE,mF,mG,mH,mI,mJ,mK,mL,mM,mN,mO,mP,mQ,mR,mS,⟨mT,mU,mV,mW,mX,mY⟩,mZ⟩:TImage)) rfl h3;rw [DenL]at h2;obtain⟨u2,us2,rfl,h4,h5⟩:=h2;rw [DenL]at h5;obtain⟨u3,us3,rfl,h6,h7⟩:=h5;rw [DenL]at h7;subst h7;rw [Den]at h4;obtain⟨rfl,_⟩:=h4;rw [Den]at h6;obtain⟨rfl,_⟩:=h6;generalize hI:((⟨mA,mB,mC,mD,mE,mF,mG,mH,mI,mJ,mK,mL,mM,mN,mO,mP,mQ,mR,mS,⟨mT,mU,mV,mW,mX,mY⟩,mZ⟩:TImage))=I at hD;have hil:(infOf I).lines.length≤60:=by rw [← hI];show(List.map toLn _).length≤60;rw [List.length_map];exact h60
  refine(of_own cs _ f n m.w (inf_dl hD) hil).mono fun e w' ⟨iv,he,hx,hl,hk⟩=>⟨_,fun b=>m.S b∨(blkOf iv=some b∧b<w'.heap.size),he,hx,low_le hm hx fun _ h=>.inl h,fun b hb=>?_,?_⟩
  ·rcases hb with hb|⟨hb,hb2⟩
   ·exact⟨Nat.lt_of_lt_of_le (hm b hb) hx.size,.inl hb⟩
   ·exact⟨hb2,.inr (hk b (own_of_blk hl.isS3 hb))⟩
  rw [Den];have hl':LR 1 (fun k:Int=>[.int .i64 k]) w' iv ((show List Int from ofT I f n).map id):=by rw [List.map_id];exact hl
  by_cases hn:List.length (α:=Int) (ofT I f n)=0
  ·have e0:ofT I f n=[]:=List.eq_nil_of_length_eq_zero hn;rw [e0]at hl' ⊢;have h1:=hl'.reads;exact⟨[],h1,Elts.nil,fun h=>absurd rfl h,trivial,Nat.le_trans (Nat.le_of_eq (Nat.zero_mul _)) (Nat.zero_le _)⟩
  ·refine ld_new (f:=fun k:Int=>[.int .i64 k]) (g:=id) hl' (fun _=>rfl) (fun x hx=>?_) (fun b hb=>.inr ⟨hb,?_⟩) ?_
   ·obtain⟨y,hy,rfl⟩:=ofT_mem hx;obtain⟨v3,e3,q3⟩:=hD.get (i:=20) rfl;obtain⟨us,hd⟩:=ld_mem q3 hy;exact⟨_,_,rfl,⟨rfl,(ln_inR hd).1⟩,rfl⟩
   ·have h1:=hl'.reads;refine reads_lt h1 ?_ hb;rw [h1.1,List.length_map];exact Nat.mul_pos (Nat.pos_of_ne_zero hn) (by decide)
   ·have e3:List.length (α:=Int) (ofT I f n)≤60:=by
      refine Nat.le_trans (Lib.compact_length_le _) ?_;rw [List.length_mergeSort,addrS,List.length_map];exact Nat.le_trans (List.length_filter_le ..) hil
    have e4:List.length (α:=Int) (ofT I f n)*BT 0≤60*BT 0:=Nat.mul_le_mul_right _ e3;refine Nat.le_trans e4 ?_
    decide
 ·trivial
noncomputable def F_BL:Fact E0:=Fact.co [.agg [.un,.un,.un,.un,.un,.un,.un,.un,.lst none 6 [],.lst none 8 [],.lst none 10 [],.lst none 0 [],.lst none 0 [],.lst none 13 [],.lst none 0 [],.lst none 0 [],.un,.lst none 1 [],.lst none 16 [],.lst none 18 [],.lst none 20 [],.lst none 22 [],.lst none 24 [],.lst none 26 [],.lst none 28 [],.lst none 33 []],.un,.un] ⟨8,a_Cx,by unfold FnOK;kernel_rfl,o_EL⟩
end Go.SX
