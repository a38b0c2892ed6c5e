/- A part of the proof (texts B89). -/
import Derived.Test.YtpndeclljmdjkaaGreatDoorP10
import Derived.Test.YtpndeclljmdjkaaGreatDoorP31
import Derived.Test.YtpndeclljmdjkaaGreatDoorP32
set_option linter.all false
set_option maxRecDepth 100000
namespace Go.SX
open List renaming replicate -> dJ
open List renaming length -> ln
open Go.XK Go.RowKit
set_option maxHeartbeats 40000000
theorem aae {uName:ByteArray} {eO:Bool} {aj:Li 19} {ak:Li 21} {aJ:Li 23} {aT:Li 6} {aS:Li 6} {aY:Li 1} {aG:Int} {aU:Int} {aL:Int} {aF:Int} {aH:Li 27} {aD:Li 31} {ay:Li 0} {aB:Li 0} {aI:Li 35} {bJ:Int} {bD:Int} {aX:Int} {dX:Int} {mA:ByteArray} {mB:Bool} {mC:Int} {mD:Int} {mE:Int} {mF:ByteArray} {mG:ByteArray} {mH:Int} {mK:Li 21} {mL:Li 0} {mQ:Int} {mR:Li 1} {mS:Li 27} {mI:Li 38} {mJ:Li 40} {mM:Li 0} {mN:Li 42} {mO:Li 0} {mP:Li 0} {mT:Li 9} {mU:Li 11} {mV:Li 44} {mW:Li 13} {mX:Li 46} {mY:Li 17} {mZ:Li 49} {bs:Li 3} {tl:Li 3} {ok:Bool} {i_:Int} {W:NdR} (hW:Hid (W=(ndW aj ay aB aI i_ mN))) (hO:NdOk aj ay aB aI (@ln (ah 3) bs) i_) (hP:ndP aj ak (gt 19 aj i_.toNat:aM)) (hN:@ln (ah 38) mI<=1048576) (hD:@ln (ah 42) mN<=1099510579200) (hT:@ln (ah 3) tl<=1099511627776) (hB:@ln (ah 3) bs<=1099511627776):HC E0 16 16 [.loc 0 0,.i i_] [(0,Ee uName eO aj ak aJ aT aS aY aG aU aL aF aH aD ay aB aI bJ bD aX dX mA mB mC mD mE mF mG mH 1 2 mK mL 3 4 5 6 mQ mR mS 7 8 9 10 11 12 13 14 15 ok),(1,.arr 75 none 38 mI),(2,.arr 137 none 40 mJ),(3,.arr 3 none 0 mM),(4,.arr 73 none 42 mN),(5,.arr 3 none 0 mO),(6,.arr 3 none 0 mP),(7,.arr 61 none 9 mT),(8,.arr 63 none 11 mU),(9,.arr 133 none 44 mV),(10,.arr 129 none 13 mW),(11,.arr 88 none 46 mX),(12,.arr 131 none 17 mY),(13,.arr 142 none 49 mZ),(14,.arr 5 none 3 bs),(15,.arr 5 none 3 tl)] (fun s H n=>s=.jm []/\H=[(0,Ee uName eO aj ak aJ aT aS aY aG aU aL aF aH aD ay aB aI bJ bD aX dX mA mB mC mD mE mF mG mH 16 2 mK mL 3 17 5 6 mQ mR mS 7 8 9 10 11 12 13 14 18 ((W.2.2&&ok))),(16,.arr 75 none 38 (@HAppend.hAppend (List fB) (List fB) (List fB) _ mI [(⟨(gt 19 aj i_.toNat:aM).Obj,(gt 19 aj i_.toNat:aM).gD,(gt 19 aj i_.toNat:aM).Kind,nJ ay i_.toNat,(gt 19 aj i_.toNat:aM).Size,sS aj ak i_,BQ aj i_⟩:fB)])),(2,.arr 137 none 40 mJ),(3,.arr 3 none 0 mM),(17,.arr 73 none 42 W.2.1),(5,.arr 3 none 0 mO),(6,.arr 3 none 0 mP),(7,.arr 61 none 9 mT),(8,.arr 63 none 11 mU),(9,.arr 133 none 44 mV),(10,.arr 129 none 13 mW),(11,.arr 88 none 46 mX),(12,.arr 131 none 17 mY),(13,.arr 142 none 49 mZ),(14,.arr 5 none 3 (bif W.2.2 then NZ (gt 19 aj i_.toNat:aM).Kind (nJ ay i_.toNat) W.1 bs else bs)),(18,.arr 5 none 3 (bif W.2.2 then NY (gt 19 aj i_.toNat:aM).Kind (nJ ay i_.toNat) (gt 19 aj i_.toNat:aM).Size W.1 tl else tl))]/\n=19):=by
 refine dG (DB:=[F_Dm,F_Do,F_DB,F_DG,F_AI]) (IL:=[I_Et]) (WL:=[]) (fn:=Proofs.Tryz.f16) rfl rfl rfl rfl (by unfold dA;kernel_rfl) (fun hk=>?_)
 simp only [know]at hk;obtain⟨hi,hil,hrefs,hnr,hby,htl⟩:=hO;have hi0:=hi.1;have hi1:=hi.2;have hb1:0<=i_->i_<(@ln (ah 19) aj:Nat)->ndP aj ak (ndA aj i_):=fun _ _=>hP
 have hb2:0<=i_->i_<(@ln (ah 19) aj:Nat)->jT (ndA aj i_).Bytes:=fun _ _=>hP.bytes
 have hj:0<=i_/\i_<(@ln (ah 0) ay:Nat):=⟨hi0,hil⟩;have hap:∀ x:ah 38,(@ln (ah 38) mI+@ln (ah 38) [x])*BT 38<=140737488355328:=fun x=>by show(_+1)*88<=_;omega
 refine Or.inr (Or.inl ⟨Unit,1,[],[0,1],fun _=>[(4,.loc 16 0),(5,.i (nJ ay i_.toNat))],fun _=>[(16,.row 59 [.str (gt 19 aj i_.toNat:aM).Obj,.str (gt 19 aj i_.toNat:aM).gD,.i (gt 19 aj i_.toNat:aM).Kind,.i (gt 19 aj i_.toNat:aM).Align,.i (gt 19 aj i_.toNat:aM).Size,.str (gt 19 aj i_.toNat:aM).Bytes,.aW none 7 (gt 19 aj i_.toNat:aM).Refs,.aW none 9 (gt 19 aj i_.toNat:aM).Marks,.aW none 11 (gt 19 aj i_.toNat:aM).Lines,.aW none 13 (gt 19 aj i_.toNat:aM).dK,.aW none 15 (gt 19 aj i_.toNat:aM).Vars,.aW none 17 (gt 19 aj i_.toNat:aM).gy])],[],fun _=>True,?_,?_⟩)
 ·repeat' first|(refine w_ ?_;first|(apply aP;focus (first|exact hi|exact hj))|refine bO bK trivial ?_|(refine Or.inr (Or.inl ⟨[1,1,1,1,0,1,1,0,1,1,1,1,0,1,1,0,2,3,1],(.take 0 (.take 1 (.take 2 (.take 3 (.take 5 (.take 8 (.take 9 (.take 10 (.take 11 (.take 13 (.take 4 (.take 6 (.take 7 (.two 12 (.take 14 (.two 15 (.one 16 (.one 17 (.take 18 .done))) 16 (.two 15 (.one 17 (.take 18 .done)) 17 (.take 15 (.take 18 .done))))) 16 (.two 12 (.take 14 (.two 15 (.one 17 (.take 18 .done)) 17 (.take 15 (.take 18 .done)))) 17 (.take 12 (.take 14 (.take 15 (.take 18 .done))))))))))))))))))),by decide +kernel,?_⟩))|(refine And.intro ?_ ?_))|apply B_<;>intro h hc|apply I_;intro h
  all_goals conv=>whnf
  all_goals (refine⟨(),trivial,?_⟩;exact bA)
 rintro _ _
 repeat' first|(refine w_ ?_;first|(apply aP;focus (exact hap _))|refine bO bK (And.intro @hb1 @hb2) ?_)|apply B_<;>intro h hc|apply I_;intro h
 all_goals conv=>whnf
 refine Or.inl ⟨Int×ByteArray×Li 42,1,[],[0,1,4,5,64,65],fun s=>[(66,.i s.1),(6,.str s.2.1)],fun s=>[(0,Ee uName eO aj ak aJ aT aS aY aG aU aL aF aH aD ay aB aI bJ bD aX dX mA mB mC mD mE mF mG mH 18 2 mK mL 3 19 5 6 mQ mR mS 7 8 9 10 11 12 13 14 15 ok),(19,.arr 73 none 42 s.2.2)],[4],fun s=>∃ k:Nat,s.1=k/\k<=@ln (ah 7) (gt 19 aj i_.toNat:aM).Refs/\@ln (ah 42) s.2.2<=1099510579200+k/\s.2.1.size=(gt 19 aj i_.toNat:aM).Bytes.size/\Hid (W=lp (zL aj ay aB aI i_) Md (@ln (ah 7) (gt 19 aj i_.toNat:aM).Refs-k) k s.2),fun s=>((@ln (ah 7) (gt 19 aj i_.toNat:aM).Refs:Nat)-s.1).toNat,(0,(gt 19 aj i_.toNat:aM).Bytes,mN),⟨0,rfl,Nat.zero_le _,bg,rfl,⟨hW.out.trans rfl⟩⟩,?_,?_⟩
 ·exact bA
 rintro⟨(k:Int),(x:ByteArray),(acc:Li 42)⟩ ⟨k,hk1,hk2,hk3,hx,hS⟩;replace hk1:_=(k:Int):=hk1;subst hk1;replace hk2:k<=@ln (ah 7) (gt 19 aj i_.toNat:aM).Refs:=hk2;replace hk3:@ln (ah 42) acc<=1099510579200+k:=hk3;replace hx:x.size=(gt 19 aj i_.toNat:aM).Bytes.size:=hx;replace hS:Hid (W=lp (zL aj ay aB aI i_) Md (@ln (ah 7) (gt 19 aj i_.toNat:aM).Refs-k) k (x,acc)):=hS;refine gK fun K hK=>?_
 by_cases hkl:k<@ln (ah 7) (gt 19 aj i_.toNat:aM).Refs
 ·have hd:decide ((k:Int)<(@ln (ah 7) (gt 19 aj i_.toNat:aM).Refs:Nat))=true:=decide_eq_true au
  have hr:=hrefs k hkl;have hw:=hr.wh;have hS2:Hid (W=zL aj ay aB aI i_ k (x,acc) (lp (zL aj ay aB aI i_) Md (@ln (ah 7) (gt 19 aj i_.toNat:aM).Refs-(k+1)) (k+1))):=⟨hS.out.trans (cK hkl)⟩;have hsz:Ai x:=by have:=hP.bytes;unfold Ai;unfold jT at this;omega
  have hdl:@ln (ah 42) acc<=1099511627776:=by omega
  clear hS
  repeat' first|(refine jU ?_;first|(apply aP;focus (first|exact hr|exact hsz))|refine bO bK trivial ?_|(refine Or.inl ⟨_,_,_,_,[0,18,2,3,19,5,6,7,8,9,10,11,12,13,14,15],hc_bdyn hw hdl,rfl,rfl,rfl,rfl,rfl,(aK (aK (aK (aK (aK (aK (aK (aK (aK (aK (aK (aK (aK (aK (aK (aK trivial)))))))))))))))),?_⟩;(rintro _ _ _ ⟨rfl,rfl,rfl⟩;refine aK (aK ?_))))|apply B_<;>intro h hc|apply I_;intro h
  all_goals refine iw ?_
  ·refine ex4 ((k:Int)+1) (b:=x) (c:=@HAppend.hAppend (List lM) (List lM) (List lM) _ acc [Wm ay aB i_ (Cv aj i_ k)]) bA bg ?_
   (try dsimp only)
   refine⟨k+1,rfl,hkl,?_,hx,⟨hS2.out.trans ?_⟩⟩
   ·show @ln (ah 42) (@HAppend.hAppend (Li 42) (Li 42) (Li 42) _ acc [_])<=_;rw [@List.length_append (ah 42)];show @ln (ah 42) acc+1<=_;omega
   ·symm;unfold zL;exact lI
  ·have hW2:W=(x,acc,false):=hS2.out.trans (by symm;unfold zL;exact lI)
   clear hW hS2;subst hW2;refine⟨[],[],_,_,[18,19,15],⟨rfl,rfl,rfl⟩,?_⟩;(conv=>whnf);refine w_ ?_;repeat' (first|((with_reducible apply And.intro)<;>(first|(with_reducible refine iK ?_;apply rfl)|(with_reducible refine eY ?_;apply rfl)|(refine w_ ?_)))|(with_reducible apply trivial)|apply rfl|apply(Or.inl rfl)|apply(Or.inr rfl)|apply(Or.inr (Or.inl rfl))|apply trivial|(apply And.intro<;>(refine w_ ?_)))
   all_goals exact rfl
  ·refine ex4 ((k:Int)+1) bA bg ?_
   (try dsimp only)
   refine⟨k+1,rfl,hkl,?_,(Ay (by simpa using hc)).trans hx,⟨hS2.out.trans ?_⟩⟩
   ·show @ln (ah 42) acc<=_;omega
   ·symm;unfold zL;exact lI
 have hd:decide ((k:Int)<(@ln (ah 7) (gt 19 aj i_.toNat:aM).Refs:Nat))=false:=decide_eq_false au
 have hW2:W=(x,acc,true):=hS.out.trans (iZ au)
 clear hW hS;subst hW2
 by_cases h0:(gt 19 aj i_.toNat:aM).Kind=0
 ·have hd0:decide ((gt 19 aj i_.toNat:aM).Kind=0)=true:=decide_eq_true h0;have hA:(decide ((gt 19 aj i_.toNat:aM).Kind=0)||decide ((gt 19 aj i_.toNat:aM).Kind=1))=true:=by rw [hd0];rfl
  have hB:decide ((gt 19 aj i_.toNat:aM).Kind=3)=false:=decide_eq_false au
  obtain⟨q1,q2⟩:=hby (.inl h0);have o1:x.size<=((@ln (ah 3) bs:Nat):Int).toNat-(nJ ay i_.toNat).toNat:=by omega
  have o2:rP (nJ ay i_.toNat) (@ln (ah 3) bs:Nat) (@ln (ah 3) bs:Nat):=⟨au,au,Int.le_refl _⟩
  repeat' first|(refine jU ?_;first|(apply aP;focus (first|exact o1|exact o2))|refine bO bK trivial ?_)|apply B_<;>intro h hc|apply I_;intro h
  all_goals refine iw ?_
  refine⟨[],[],_,_,[18,19,15],⟨rfl,rfl,rfl⟩,?_⟩;(conv=>whnf);refine w_ ?_;repeat' (first|((with_reducible apply And.intro)<;>(first|(with_reducible refine iK ?_;apply rfl)|(with_reducible refine eY ?_;apply rfl)|(refine w_ ?_)))|(with_reducible apply trivial)|apply rfl|apply(Or.inl rfl)|apply(Or.inr rfl)|apply(Or.inr (Or.inl rfl))|apply trivial|(apply And.intro<;>(refine w_ ?_)))
  all_goals first|exact rfl|exact GI hA|exact GJ hA|exact GH hB|exact GD hB WO
 by_cases h1:(gt 19 aj i_.toNat:aM).Kind=1
 ·have hd0:decide ((gt 19 aj i_.toNat:aM).Kind=1)=true:=decide_eq_true h1;have hd2:decide ((gt 19 aj i_.toNat:aM).Kind=0)=false:=decide_eq_false au
  have hA:(decide ((gt 19 aj i_.toNat:aM).Kind=0)||decide ((gt 19 aj i_.toNat:aM).Kind=1))=true:=by rw [hd0,hd2];rfl
  have hB:decide ((gt 19 aj i_.toNat:aM).Kind=3)=false:=decide_eq_false au
  obtain⟨q1,q2⟩:=hby (.inr h1);have o1:x.size<=((@ln (ah 3) bs:Nat):Int).toNat-(nJ ay i_.toNat).toNat:=by omega
  have o2:rP (nJ ay i_.toNat) (@ln (ah 3) bs:Nat) (@ln (ah 3) bs:Nat):=⟨au,au,Int.le_refl _⟩
  repeat' first|(refine jU ?_;first|(apply aP;focus (first|exact o1|exact o2))|refine bO bK trivial ?_)|apply B_<;>intro h hc|apply I_;intro h
  all_goals refine iw ?_
  refine⟨[],[],_,_,[18,19,15],⟨rfl,rfl,rfl⟩,?_⟩;(conv=>whnf);refine w_ ?_;repeat' (first|((with_reducible apply And.intro)<;>(first|(with_reducible refine iK ?_;apply rfl)|(with_reducible refine eY ?_;apply rfl)|(refine w_ ?_)))|(with_reducible apply trivial)|apply rfl|apply(Or.inl rfl)|apply(Or.inr rfl)|apply(Or.inr (Or.inl rfl))|apply trivial|(apply And.intro<;>(refine w_ ?_)))
  all_goals first|exact rfl|exact GI hA|exact GJ hA|exact GH hB|exact GD hB WO
 have hd2:decide ((gt 19 aj i_.toNat:aM).Kind=0)=false:=decide_eq_false h0;have hd3:decide ((gt 19 aj i_.toNat:aM).Kind=1)=false:=decide_eq_false h1;have hA:(decide ((gt 19 aj i_.toNat:aM).Kind=0)||decide ((gt 19 aj i_.toNat:aM).Kind=1))=false:=by rw [hd2,hd3];rfl
 by_cases h3:(gt 19 aj i_.toNat:aM).Kind=3
 ·have hd0:decide ((gt 19 aj i_.toNat:aM).Kind=3)=true:=decide_eq_true h3;have hB:=hd0;obtain⟨q1,q2,q3⟩:=htl h3
  by_cases hlt:(@ln (ah 3) tl:Nat)<(nJ ay i_.toNat)+(gt 19 aj i_.toNat:aM).Size
  ·have hd4:decide ((@ln (ah 3) tl:Nat)<(nJ ay i_.toNat)+(gt 19 aj i_.toNat:aM).Size)=true:=decide_eq_true hlt;have WO:=YV hlt;have hX:=RH hlt;have o1:x.size<=((@ln (ah 3) (@HAppend.hAppend (List UInt8) (List UInt8) (List UInt8) _ tl (dJ ((nJ ay i_.toNat)+(gt 19 aj i_.toNat:aM).Size-(@ln (ah 3) tl:Nat)).toNat 0)):Nat):Int).toNat-(nJ ay i_.toNat).toNat:=by omega
   have o2:rP (nJ ay i_.toNat) (@ln (ah 3) (@HAppend.hAppend (List UInt8) (List UInt8) (List UInt8) _ tl (dJ ((nJ ay i_.toNat)+(gt 19 aj i_.toNat:aM).Size-(@ln (ah 3) tl:Nat)).toNat 0)):Nat) (@ln (ah 3) (@HAppend.hAppend (List UInt8) (List UInt8) (List UInt8) _ tl (dJ ((nJ ay i_.toNat)+(gt 19 aj i_.toNat:aM).Size-(@ln (ah 3) tl:Nat)).toNat 0)):Nat):=⟨au,au,Int.le_refl _⟩
   have o3:(@ln (ah 3) tl+@ln (ah 3) (dJ ((nJ ay i_.toNat)+(gt 19 aj i_.toNat:aM).Size-(@ln (ah 3) tl:Nat)).toNat (0:UInt8)))*BT 3<=140737488355328:=by show(_+List.length (dJ _ (0:UInt8)))*1<=_;rw [List.length_replicate];omega
   clear hX
   repeat' first|(refine jU ?_;first|(apply aP;focus (first|exact o1|exact o2|exact o3))|refine bO bK trivial ?_)|apply B_<;>intro h hc|apply I_;intro h
   all_goals refine iw ?_
   refine⟨[],[],_,_,[18,19,20],⟨rfl,rfl,rfl⟩,?_⟩;(conv=>whnf);refine w_ ?_;repeat' (first|((with_reducible apply And.intro)<;>(first|(with_reducible refine iK ?_;apply rfl)|(with_reducible refine eY ?_;apply rfl)|(refine w_ ?_)))|(with_reducible apply trivial)|apply rfl|apply(Or.inl rfl)|apply(Or.inr rfl)|apply(Or.inr (Or.inl rfl))|apply trivial|(apply And.intro<;>(refine w_ ?_)))
   all_goals first|exact rfl|exact GI hA|exact GJ hA|exact GH hB|exact GD hB WO
  ·have hd4:decide ((@ln (ah 3) tl:Nat)<(nJ ay i_.toNat)+(gt 19 aj i_.toNat:aM).Size)=false:=decide_eq_false hlt;have WO:=YW hlt;have o1:x.size<=((@ln (ah 3) tl:Nat):Int).toNat-(nJ ay i_.toNat).toNat:=by omega
   have o2:rP (nJ ay i_.toNat) (@ln (ah 3) tl:Nat) (@ln (ah 3) tl:Nat):=⟨au,au,Int.le_refl _⟩
   repeat' first|(refine jU ?_;first|(apply aP;focus (first|exact o1|exact o2))|refine bO bK trivial ?_)|apply B_<;>intro h hc|apply I_;intro h
   all_goals refine iw ?_
   refine⟨[],[],_,_,[18,19,15],⟨rfl,rfl,rfl⟩,?_⟩;(conv=>whnf);refine w_ ?_;repeat' (first|((with_reducible apply And.intro)<;>(first|(with_reducible refine iK ?_;apply rfl)|(with_reducible refine eY ?_;apply rfl)|(refine w_ ?_)))|(with_reducible apply trivial)|apply rfl|apply(Or.inl rfl)|apply(Or.inr rfl)|apply(Or.inr (Or.inl rfl))|apply trivial|(apply And.intro<;>(refine w_ ?_)))
   all_goals first|exact rfl|exact GI hA|exact GJ hA|exact GH hB|exact GD hB WO
 have hd0:decide ((gt 19 aj i_.toNat:aM).Kind=3)=false:=decide_eq_false h3;have hB:=hd0
 repeat' first|refine iF ?_|apply B_<;>intro h hc|apply I_;intro h
 all_goals refine iw ?_
 refine⟨[],[],_,_,[18,19,15],⟨rfl,rfl,rfl⟩,?_⟩;(conv=>whnf);refine w_ ?_;repeat' (first|((with_reducible apply And.intro)<;>(first|(with_reducible refine iK ?_;apply rfl)|(with_reducible refine eY ?_;apply rfl)|(refine w_ ?_)))|(with_reducible apply trivial)|apply rfl|apply(Or.inl rfl)|apply(Or.inr rfl)|apply(Or.inr (Or.inl rfl))|apply trivial|(apply And.intro<;>(refine w_ ?_)))
 all_goals first|exact rfl|exact GI hA|exact GJ hA|exact GH hB|exact GD hB WO
end Go.SX
