/- A part of the proof (texts B72, B87, B82). -/
import Derived.Test.YtpndeclljmdjkaaGreatDoorP10
import Derived.Test.YtpndeclljmdjkaaGreatDoorP12
import Derived.Test.YtpndeclljmdjkaaGreatDoorP17
import Derived.Test.YtpndeclljmdjkaaGreatDoorP23
import Derived.Test.YtpndeclljmdjkaaGreatDoorP29
set_option linter.all false
set_option maxRecDepth 100000
namespace Go.SX
open List renaming length -> ln
open Go.XK Go.RowKit
set_option maxHeartbeats 40000000
def VN (x:rJ):Li 3:=[UInt8.ofInt x.Op,UInt8.ofInt x.A,UInt8.ofInt x.B,UInt8.ofInt x.C,UInt8.ofNat 0,UInt8.ofNat 0,UInt8.ofNat 0,UInt8.ofNat 0]
def pI (x:rJ):ByteArray:=bif isRight x then oF (ofBytes (VN x)) 4 4 x.Imm else⟨#[]⟩
def wU (x:rJ):Bool:=bif isRight x then lD (ofBytes (VN x)) 4 4 x.Imm else false
noncomputable def F_BW:Fact E0:=bM 22 Proofs.Tryz.f22 rfl rfl rfl [.g CF] (fun qw xA xB xC zh=>.ok (.jm [.str (pI (⟨qw,xA,xB,xC,zh⟩:rJ)),.b (wU (⟨qw,xA,xB,xC,zh⟩:rJ))])) [F_BX,F_Ep] [] (by
   intro qw xA xB xC zh;refine dP rfl rfl fun hk=>?_
   have o8:(8:Nat)<=140737488355328:=by decide
   have hz8:((ofBytes (VN (⟨qw,xA,xB,xC,zh⟩:rJ))).size:Int)<=140737488355328:=by show((8:Nat):Int)<=_;decide
   cases hR:isRight (⟨qw,xA,xB,xC,zh⟩:rJ)with
   |false =>
     have e1:pI (⟨qw,xA,xB,xC,zh⟩:rJ)=⟨#[]⟩:=by unfold pI;rw [hR];rfl
     have e2:wU (⟨qw,xA,xB,xC,zh⟩:rJ)=false:=by unfold wU;rw [hR];rfl
     rw [e1,e2];have hd:(!isRight (⟨qw,xA,xB,xC,zh⟩:rJ))=true:=by rw [hR];rfl
     repeat' first|(refine w_ ?_;first|(apply aP;focus (first|exact o8|exact hz8))|refine bO bK trivial ?_)|apply B_<;>intro h hc|apply I_;intro h
     all_goals conv=>whnf
     all_goals exact bA
   |true =>
     have e1:pI (⟨qw,xA,xB,xC,zh⟩:rJ)=oF (ofBytes (VN (⟨qw,xA,xB,xC,zh⟩:rJ))) 4 4 zh:=by unfold pI;rw [hR];rfl
     have e2:wU (⟨qw,xA,xB,xC,zh⟩:rJ)=lD (ofBytes (VN (⟨qw,xA,xB,xC,zh⟩:rJ))) 4 4 zh:=by unfold wU;rw [hR];rfl
     rw [e1,e2];have hd:(!isRight (⟨qw,xA,xB,xC,zh⟩:rJ))=false:=by rw [hR];rfl
     repeat' first|(refine w_ ?_;first|(apply aP;focus (first|exact o8|exact hz8))|refine bO bK trivial ?_)|apply B_<;>intro h hc|apply I_;intro h
     all_goals conv=>whnf
     all_goals exact bA)
def exI (op:Int):ByteArray:=pI ⟨op,0,0,0,0⟩
def exN1:aM:=⟨⟨#[111]⟩,⟨#[116,101,120,116]⟩,0,8,24,exI 1++exI 22++exI 26,[⟨8,6,⟨0,0,0,0⟩,0⟩],[],[],[],[],[]⟩
def exN2:aM:=⟨⟨#[111]⟩,⟨#[100,97,116,97]⟩,1,8,16,ofBytes (List.replicate (Int.toNat 16) (UInt8.ofNat 0)),[⟨0,0,⟨0,0,0,0⟩,16⟩,⟨8,0,⟨1,0,0,0⟩,4⟩],[],[],[],[],[]⟩
def exImp:qo:=⟨⟨#[102]⟩,⟨#[]⟩,0,false,false⟩
def exNs:Li 19:=[exN1,exN2]
def exIs:Li 21:=[exImp]
noncomputable def F_Ba:Fact E0:=bM 9 Proofs.Tryz.f9 rfl rfl rfl [] (.ok (.jm [.agg [.str ⟨#[108,105,98]⟩,.b true,.aW (some false) 19 exNs,.aW (some false) 21 exIs,.v (.slice none 0 0),.v (.slice none 0 0),.v (.slice none 0 0),.v (.slice none 0 0),.i 2,.i 0,.i 0,.i 0,.v (.slice none 0 0),.v (.slice none 0 0)],.agg [.aW (some false) 0 ([0,264]:List Int),.aW (some false) 0 ([-1]:List Int),.v (.slice none 0 0),.i 256,.i 512,.i 512,.i 0]])) [F_BW] [] (by
   refine dP rfl rfl fun hk=>?_
   repeat' first|refine dM ?_|apply B_<;>intro h hc|apply I_;intro h
   all_goals conv=>whnf
   refine w_ ?_;repeat' (first|((with_reducible apply And.intro)<;>(first|(with_reducible refine iK ?_;apply rfl)|(with_reducible refine eY ?_;apply rfl)|(refine w_ ?_)))|(with_reducible apply trivial)|apply rfl|apply(Or.inl rfl)|apply(Or.inr rfl)|apply(Or.inr (Or.inl rfl))|apply trivial|(apply And.intro<;>(refine w_ ?_))))
theorem Oq (x:rJ):(pI x).size<=8:=by
 unfold pI
 cases isRight x with
 |false=>exact Nat.zero_le _
 |true =>
   show(oF (ofBytes (VN x)) 4 4 x.Imm).size<=8;rw [E9];split
   ·exact Nat.le_of_eq (SE _)
   ·exact Nat.zero_le _
abbrev gJ (l:Li 0) (k:Nat):Int:=gt 0 l k
def qJ (S N:Li 0) (s:fA):rJ :=
 bif decide (s.Kind=1)then⟨25,0,0,0,IntKind.i64.wrap (gJ S s.N.toNat-s.At)⟩else⟨19,0,0,0,IntKind.i64.wrap (IntKind.i64.wrap (gJ N s.N.toNat+s.Off)-s.At)⟩
def Lf (b:Li 3) (at_:Int) (t:ByteArray):Li 3:=vS b at_.toNat b.length t.data.toList
theorem aac {uName:ByteArray} {eO:Bool} {aj:Li 19} {ak:Li 21} {aJ:Li 23} {aT:Li 6} {aS:Li 6} {aY:Li 1} {aG:Int} {aU:Int} {aL:Int} {aF:Int} {aH:Li 27} {aD:Li 31} {ay:Li 0} {aB:Li 0} {aI:Li 35} {bJ:Int} {bD:Int} {aX:Int} {dX:Int} {mA:ByteArray} {mB:Bool} {mC:Int} {mD:Int} {mE:Int} {mF:ByteArray} {mG:ByteArray} {mH:Int} {mK:Li 21} {mL:Li 0} {mQ:Int} {mR:Li 1} {mS:Li 27} {mI:Li 38} {mJ:Li 40} {mM:Li 0} {mN:Li 42} {mO:Li 0} {mP:Li 0} {mT:Li 9} {mU:Li 11} {mV:Li 44} {mW:Li 13} {mX:Li 46} {mY:Li 17} {mZ:Li 49} {bs:Li 3} {tl:Li 3} {ok:Bool} {FM:Int} {kT:Int} {sN:Int} {Ca:Int} (hk1:kT=1->0<=sN/\sN<(@ln (ah 0) aB:Nat)) (hk0:¬ kT=1->0<=sN/\sN<(@ln (ah 0) ay:Nat)) (hA0:0<=FM) (hA1:FM+8<=(@ln (ah 3) bs:Nat)) (hb:@ln (ah 3) bs<=1048576) (hs:@ln (ah 0) mM<=1048576):HC E0 18 16 [.loc 0 0,.agg [.i FM,.i kT,.i sN,.i Ca]] [(0,Ee uName eO aj ak aJ aT aS aY aG aU aL aF aH aD ay aB aI bJ bD aX dX mA mB mC mD mE mF mG mH 1 2 mK mL 3 4 5 6 mQ mR mS 7 8 9 10 11 12 13 14 15 ok),(1,.arr 75 none 38 mI),(2,.arr 137 none 40 mJ),(3,.arr 3 none 0 mM),(4,.arr 73 none 42 mN),(5,.arr 3 none 0 mO),(6,.arr 3 none 0 mP),(7,.arr 61 none 9 mT),(8,.arr 63 none 11 mU),(9,.arr 133 none 44 mV),(10,.arr 129 none 13 mW),(11,.arr 88 none 46 mX),(12,.arr 131 none 17 mY),(13,.arr 142 none 49 mZ),(14,.arr 5 none 3 bs),(15,.arr 5 none 3 tl)] (fun s H n=>s=.jm []/\H=[(0,Ee uName eO aj ak aJ aT aS aY aG aU aL aF aH aD ay aB aI bJ bD aX dX mA mB mC mD mE mF mG mH 1 2 mK mL 16 4 5 6 mQ mR mS 7 8 9 10 11 12 13 14 15 ((ok&&wU (qJ aB ay (⟨FM,kT,sN,Ca⟩:fA))))),(1,.arr 75 none 38 mI),(2,.arr 137 none 40 mJ),(16,.arr 3 none 0 (@HAppend.hAppend (List Int) (List Int) (List Int) _ mM [FM])),(4,.arr 73 none 42 mN),(5,.arr 3 none 0 mO),(6,.arr 3 none 0 mP),(7,.arr 61 none 9 mT),(8,.arr 63 none 11 mU),(9,.arr 133 none 44 mV),(10,.arr 129 none 13 mW),(11,.arr 88 none 46 mX),(12,.arr 131 none 17 mY),(13,.arr 142 none 49 mZ),(14,.arr 5 none 3 (Lf bs FM (pI (qJ aB ay (⟨FM,kT,sN,Ca⟩:fA))))),(15,.arr 5 none 3 tl)]/\n=17):=by
 refine dG (DB:=[F_BW]) (IL:=[]) (WL:=[]) (fn:=Proofs.Tryz.f18) rfl rfl rfl rfl (by unfold dA;kernel_rfl) (fun hk=>?_)
 simp only [know]at hk;have hsz:=Oq (qJ aB ay (⟨FM,kT,sN,Ca⟩:fA))
 repeat' first|(refine w_ ?_;first|refine XT bK trivial ?_|(refine Or.inr (Or.inl ⟨[1,1,1,1,0,1,0,1,0,1,0,1,1,3,1,3],(.take 0 (.take 1 (.take 2 (.take 3 (.take 5 (.take 9 (.take 12 (.four 4 (.three 6 (.take 7 (.three 8 (.two 10 (.take 11 (.one 13 (.take 14 (.one 15 .done)))) 13 (.take 10 (.take 11 (.take 14 (.one 15 .done))))) 10 (.two 8 (.take 11 (.one 13 (.take 14 (.one 15 .done)))) 13 (.take 8 (.take 11 (.take 14 (.one 15 .done))))) 13 (.take 8 (.take 10 (.take 11 (.take 14 (.one 15 .done))))))) 10 (.two 6 (.take 7 (.two 8 (.take 11 (.one 13 (.take 14 (.one 15 .done)))) 13 (.take 8 (.take 11 (.take 14 (.one 15 .done)))))) 13 (.take 6 (.take 7 (.take 8 (.take 11 (.take 14 (.one 15 .done))))))) 13 (.take 6 (.take 7 (.take 8 (.take 10 (.take 11 (.take 14 (.one 15 .done)))))))) 6 (.three 4 (.take 7 (.three 8 (.two 10 (.take 11 (.one 13 (.take 14 (.one 15 .done)))) 13 (.take 10 (.take 11 (.take 14 (.one 15 .done))))) 10 (.two 8 (.take 11 (.one 13 (.take 14 (.one 15 .done)))) 13 (.take 8 (.take 11 (.take 14 (.one 15 .done))))) 13 (.take 8 (.take 10 (.take 11 (.take 14 (.one 15 .done))))))) 10 (.two 4 (.take 7 (.two 8 (.take 11 (.one 13 (.take 14 (.one 15 .done)))) 13 (.take 8 (.take 11 (.take 14 (.one 15 .done)))))) 13 (.take 4 (.take 7 (.take 8 (.take 11 (.take 14 (.one 15 .done))))))) 13 (.take 4 (.take 7 (.take 8 (.take 10 (.take 11 (.take 14 (.one 15 .done)))))))) 10 (.three 4 (.two 6 (.take 7 (.two 8 (.take 11 (.one 13 (.take 14 (.one 15 .done)))) 13 (.take 8 (.take 11 (.take 14 (.one 15 .done)))))) 13 (.take 6 (.take 7 (.take 8 (.take 11 (.take 14 (.one 15 .done))))))) 6 (.two 4 (.take 7 (.two 8 (.take 11 (.one 13 (.take 14 (.one 15 .done)))) 13 (.take 8 (.take 11 (.take 14 (.one 15 .done)))))) 13 (.take 4 (.take 7 (.take 8 (.take 11 (.take 14 (.one 15 .done))))))) 13 (.take 4 (.take 6 (.take 7 (.take 8 (.take 11 (.take 14 (.one 15 .done)))))))) 13 (.take 4 (.take 6 (.take 7 (.take 8 (.take 10 (.take 11 (.take 14 (.one 15 .done)))))))))))))))),by decide +kernel,?_⟩))|(refine And.intro ?_ ?_))|apply B_<;>intro h hc|apply I_;intro h
 all_goals conv=>whnf
 refine Or.inr (Or.inr ⟨[],[],[],[17],[0,3,4,52],[],?_⟩);conv=>whnf
 refine⟨fun(_:Unit) (t:(Int×(Int×(Int×(Int×(Int×Unit)))))×Unit)=>t=((((qJ aB ay (⟨FM,kT,sN,Ca⟩:fA))).Op,((qJ aB ay (⟨FM,kT,sN,Ca⟩:fA))).A,((qJ aB ay (⟨FM,kT,sN,Ca⟩:fA))).B,((qJ aB ay (⟨FM,kT,sN,Ca⟩:fA))).C,((qJ aB ay (⟨FM,kT,sN,Ca⟩:fA))).Imm,()),()),?_,?_⟩
 ·by_cases hk:kT=1
  ·have hd:decide (kT=1)=true:=decide_eq_true hk;have hk2:=hk1 hk;have eI:(qJ aB ay (⟨FM,kT,sN,Ca⟩:fA))=⟨25,0,0,0,IntKind.i64.wrap (gJ aB sN.toNat-FM)⟩:=by show(bif decide (kT=1)then _ else _)=_;rw [hd];rfl
   rw [eI]
   repeat' first|(refine w_ ?_;first|refine bO bK trivial ?_|(refine Or.inr (Or.inl ⟨[1,1,1,1,0,1,0,1,0,1,0,1,1,3,1,3],(.take 0 (.take 1 (.take 2 (.take 3 (.take 5 (.take 9 (.take 12 (.four 4 (.three 6 (.take 7 (.three 8 (.two 10 (.take 11 (.one 13 (.take 14 (.one 15 .done)))) 13 (.take 10 (.take 11 (.take 14 (.one 15 .done))))) 10 (.two 8 (.take 11 (.one 13 (.take 14 (.one 15 .done)))) 13 (.take 8 (.take 11 (.take 14 (.one 15 .done))))) 13 (.take 8 (.take 10 (.take 11 (.take 14 (.one 15 .done))))))) 10 (.two 6 (.take 7 (.two 8 (.take 11 (.one 13 (.take 14 (.one 15 .done)))) 13 (.take 8 (.take 11 (.take 14 (.one 15 .done)))))) 13 (.take 6 (.take 7 (.take 8 (.take 11 (.take 14 (.one 15 .done))))))) 13 (.take 6 (.take 7 (.take 8 (.take 10 (.take 11 (.take 14 (.one 15 .done)))))))) 6 (.three 4 (.take 7 (.three 8 (.two 10 (.take 11 (.one 13 (.take 14 (.one 15 .done)))) 13 (.take 10 (.take 11 (.take 14 (.one 15 .done))))) 10 (.two 8 (.take 11 (.one 13 (.take 14 (.one 15 .done)))) 13 (.take 8 (.take 11 (.take 14 (.one 15 .done))))) 13 (.take 8 (.take 10 (.take 11 (.take 14 (.one 15 .done))))))) 10 (.two 4 (.take 7 (.two 8 (.take 11 (.one 13 (.take 14 (.one 15 .done)))) 13 (.take 8 (.take 11 (.take 14 (.one 15 .done)))))) 13 (.take 4 (.take 7 (.take 8 (.take 11 (.take 14 (.one 15 .done))))))) 13 (.take 4 (.take 7 (.take 8 (.take 10 (.take 11 (.take 14 (.one 15 .done)))))))) 10 (.three 4 (.two 6 (.take 7 (.two 8 (.take 11 (.one 13 (.take 14 (.one 15 .done)))) 13 (.take 8 (.take 11 (.take 14 (.one 15 .done)))))) 13 (.take 6 (.take 7 (.take 8 (.take 11 (.take 14 (.one 15 .done))))))) 6 (.two 4 (.take 7 (.two 8 (.take 11 (.one 13 (.take 14 (.one 15 .done)))) 13 (.take 8 (.take 11 (.take 14 (.one 15 .done)))))) 13 (.take 4 (.take 7 (.take 8 (.take 11 (.take 14 (.one 15 .done))))))) 13 (.take 4 (.take 6 (.take 7 (.take 8 (.take 11 (.take 14 (.one 15 .done)))))))) 13 (.take 4 (.take 6 (.take 7 (.take 8 (.take 10 (.take 11 (.take 14 (.one 15 .done)))))))))))))))),by decide +kernel,?_⟩))|(refine And.intro ?_ ?_))|apply B_<;>intro h hc|apply I_;intro h
   all_goals conv=>whnf
   all_goals rfl
  ·have hd:decide (kT=1)=false:=decide_eq_false hk;have hk2:=hk0 hk;have eI:(qJ aB ay (⟨FM,kT,sN,Ca⟩:fA))=⟨19,0,0,0,IntKind.i64.wrap (IntKind.i64.wrap (gJ ay sN.toNat+Ca)-FM)⟩:=by show(bif decide (kT=1)then _ else _)=_;rw [hd];rfl
   rw [eI]
   repeat' first|(refine w_ ?_;first|refine bO bK trivial ?_|(refine Or.inr (Or.inl ⟨[1,1,1,1,0,1,0,1,0,1,0,1,1,3,1,3],(.take 0 (.take 1 (.take 2 (.take 3 (.take 5 (.take 9 (.take 12 (.four 4 (.three 6 (.take 7 (.three 8 (.two 10 (.take 11 (.one 13 (.take 14 (.one 15 .done)))) 13 (.take 10 (.take 11 (.take 14 (.one 15 .done))))) 10 (.two 8 (.take 11 (.one 13 (.take 14 (.one 15 .done)))) 13 (.take 8 (.take 11 (.take 14 (.one 15 .done))))) 13 (.take 8 (.take 10 (.take 11 (.take 14 (.one 15 .done))))))) 10 (.two 6 (.take 7 (.two 8 (.take 11 (.one 13 (.take 14 (.one 15 .done)))) 13 (.take 8 (.take 11 (.take 14 (.one 15 .done)))))) 13 (.take 6 (.take 7 (.take 8 (.take 11 (.take 14 (.one 15 .done))))))) 13 (.take 6 (.take 7 (.take 8 (.take 10 (.take 11 (.take 14 (.one 15 .done)))))))) 6 (.three 4 (.take 7 (.three 8 (.two 10 (.take 11 (.one 13 (.take 14 (.one 15 .done)))) 13 (.take 10 (.take 11 (.take 14 (.one 15 .done))))) 10 (.two 8 (.take 11 (.one 13 (.take 14 (.one 15 .done)))) 13 (.take 8 (.take 11 (.take 14 (.one 15 .done))))) 13 (.take 8 (.take 10 (.take 11 (.take 14 (.one 15 .done))))))) 10 (.two 4 (.take 7 (.two 8 (.take 11 (.one 13 (.take 14 (.one 15 .done)))) 13 (.take 8 (.take 11 (.take 14 (.one 15 .done)))))) 13 (.take 4 (.take 7 (.take 8 (.take 11 (.take 14 (.one 15 .done))))))) 13 (.take 4 (.take 7 (.take 8 (.take 10 (.take 11 (.take 14 (.one 15 .done)))))))) 10 (.three 4 (.two 6 (.take 7 (.two 8 (.take 11 (.one 13 (.take 14 (.one 15 .done)))) 13 (.take 8 (.take 11 (.take 14 (.one 15 .done)))))) 13 (.take 6 (.take 7 (.take 8 (.take 11 (.take 14 (.one 15 .done))))))) 6 (.two 4 (.take 7 (.two 8 (.take 11 (.one 13 (.take 14 (.one 15 .done)))) 13 (.take 8 (.take 11 (.take 14 (.one 15 .done)))))) 13 (.take 4 (.take 7 (.take 8 (.take 11 (.take 14 (.one 15 .done))))))) 13 (.take 4 (.take 6 (.take 7 (.take 8 (.take 11 (.take 14 (.one 15 .done)))))))) 13 (.take 4 (.take 6 (.take 7 (.take 8 (.take 10 (.take 11 (.take 14 (.one 15 .done)))))))))))))))),by decide +kernel,?_⟩))|(refine And.intro ?_ ?_))|apply B_<;>intro h hc|apply I_;intro h
   all_goals conv=>whnf
   all_goals rfl
 ·rintro _ _ rfl;have o1:(pI (qJ aB ay (⟨FM,kT,sN,Ca⟩:fA))).size<=((@ln (ah 3) bs:Nat):Int).toNat-FM.toNat:=by omega
  have o2:(@ln (ah 0) mM+@ln (ah 0) [FM])*BT 0<=140737488355328:=by show(_+1)*8<=_;omega
  have o3:rP FM (@ln (ah 3) bs:Nat) (@ln (ah 3) bs:Nat):=⟨au,au,Int.le_refl _⟩
  repeat' first|(refine w_ ?_;first|(apply aP;focus (first|exact o1|exact o2|exact o3))|refine bO bK trivial ?_|(refine Or.inr (Or.inl ⟨[1,1,1,1,0,1,0,1,0,1,0,1,1,3,1,3],(.take 0 (.take 1 (.take 2 (.take 3 (.take 5 (.take 9 (.take 12 (.four 4 (.three 6 (.take 7 (.three 8 (.two 10 (.take 11 (.one 13 (.take 14 (.one 15 .done)))) 13 (.take 10 (.take 11 (.take 14 (.one 15 .done))))) 10 (.two 8 (.take 11 (.one 13 (.take 14 (.one 15 .done)))) 13 (.take 8 (.take 11 (.take 14 (.one 15 .done))))) 13 (.take 8 (.take 10 (.take 11 (.take 14 (.one 15 .done))))))) 10 (.two 6 (.take 7 (.two 8 (.take 11 (.one 13 (.take 14 (.one 15 .done)))) 13 (.take 8 (.take 11 (.take 14 (.one 15 .done)))))) 13 (.take 6 (.take 7 (.take 8 (.take 11 (.take 14 (.one 15 .done))))))) 13 (.take 6 (.take 7 (.take 8 (.take 10 (.take 11 (.take 14 (.one 15 .done)))))))) 6 (.three 4 (.take 7 (.three 8 (.two 10 (.take 11 (.one 13 (.take 14 (.one 15 .done)))) 13 (.take 10 (.take 11 (.take 14 (.one 15 .done))))) 10 (.two 8 (.take 11 (.one 13 (.take 14 (.one 15 .done)))) 13 (.take 8 (.take 11 (.take 14 (.one 15 .done))))) 13 (.take 8 (.take 10 (.take 11 (.take 14 (.one 15 .done))))))) 10 (.two 4 (.take 7 (.two 8 (.take 11 (.one 13 (.take 14 (.one 15 .done)))) 13 (.take 8 (.take 11 (.take 14 (.one 15 .done)))))) 13 (.take 4 (.take 7 (.take 8 (.take 11 (.take 14 (.one 15 .done))))))) 13 (.take 4 (.take 7 (.take 8 (.take 10 (.take 11 (.take 14 (.one 15 .done)))))))) 10 (.three 4 (.two 6 (.take 7 (.two 8 (.take 11 (.one 13 (.take 14 (.one 15 .done)))) 13 (.take 8 (.take 11 (.take 14 (.one 15 .done)))))) 13 (.take 6 (.take 7 (.take 8 (.take 11 (.take 14 (.one 15 .done))))))) 6 (.two 4 (.take 7 (.two 8 (.take 11 (.one 13 (.take 14 (.one 15 .done)))) 13 (.take 8 (.take 11 (.take 14 (.one 15 .done)))))) 13 (.take 4 (.take 7 (.take 8 (.take 11 (.take 14 (.one 15 .done))))))) 13 (.take 4 (.take 6 (.take 7 (.take 8 (.take 11 (.take 14 (.one 15 .done)))))))) 13 (.take 4 (.take 6 (.take 7 (.take 8 (.take 10 (.take 11 (.take 14 (.one 15 .done)))))))))))))))),by decide +kernel,?_⟩))|(refine And.intro ?_ ?_))|apply B_<;>intro h hc|apply I_;intro h
  all_goals conv=>whnf
  refine⟨[],[],_,_,[19],⟨rfl,rfl,rfl⟩,?_⟩
  conv=>whnf
  refine w_ ?_;repeat' (first|((with_reducible apply And.intro)<;>(first|(with_reducible refine iK ?_;apply rfl)|(with_reducible refine eY ?_;apply rfl)|(refine w_ ?_)))|(with_reducible apply trivial)|apply rfl|apply(Or.inl rfl)|apply(Or.inr rfl)|apply(Or.inr (Or.inl rfl))|apply trivial|(apply And.intro<;>(refine w_ ?_)))
  all_goals first|exact rfl
end Go.SX
