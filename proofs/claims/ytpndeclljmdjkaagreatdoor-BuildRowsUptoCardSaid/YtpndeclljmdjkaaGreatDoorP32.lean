/- A part of the proof (texts B86, BldW). -/
import Derived.Test.YtpndeclljmdjkaaGreatDoorP10
import Derived.Test.YtpndeclljmdjkaaGreatDoorP16
import Derived.Test.YtpndeclljmdjkaaGreatDoorP23
import Derived.Test.YtpndeclljmdjkaaGreatDoorP29
set_option linter.all false
set_option maxRecDepth 100000
namespace Go.SX
open List renaming length -> ln
open Go.XK Go.RowKit
set_option maxHeartbeats 40000000
noncomputable def F_AI:Fact E0:=bM 56 Proofs.Tryz.f56 rfl rfl rfl [.p Yk,.i,.i] (fun _ _ aj _ _ _ _ _ _ _ _ _ _ _ ay aB aI _ _ _ _ _ _ _ _ _ _ _ _ _ _ _ _ _ _ _ _ _ _ _ _ _ _ _ _ _ _ _ _ _ node ref=>.ob (BRef aj ay aB aI node ref) (.i (Wj aj ay aB aI node ref))) [F_AJ,F_De,F_DE] [] (by
   intro _ _ aj _ _ _ _ _ _ _ _ _ _ _ ay _ _ _ _ _ _ _ _ _ _ _ _ _ _ _ _ _ _ _ _ _ _ _ _ _ _ _ _ _ _ _ _ _ _ _ node ref;refine fD rfl rfl fun hb hk=>?_
   obtain⟨h1,h2,h3,h4,h5,h6⟩:=hb;have h7:(Cv aj node ref).Kind=6->@ln (ah 19) aj<=@ln (ah 0) ay/\(0<=node->0<=ref->Fv ay (DJ aj ay node ref)):=fun e=>⟨h4,fun _ _=>h5 e⟩
   repeat' first|(refine w_ ?_;first|(apply aP;focus (first|exact h7 h|exact⟨h,h6 (by assumption) h⟩|exact h1|exact h3))|refine bO bK @h2 ?_)|apply B_<;>intro h hc|apply I_;intro h
   all_goals conv=>whnf
   all_goals (unfold Wj;(repeat (first|exact rfl|refine gW (by assumption) ?_|refine gB (by assumption) ?_|refine jY (by first|assumption|omega) ?_|refine jZ (by first|assumption|omega) ?_))))
def bDynK (k:Int):Int:=bif decide (k=0)then 0 else bif decide (k=8)then 1 else bif decide (k=9)then 2 else bif decide (k=1)then 6 else bif decide (k=4)then 7 else bif decide (k=11)then 4 else bif decide (k=12)then 5 else 0
def bDynP (k p:Int):Int:=bif decide (k=0)then p else bif decide (k=8)then oD p 4 else bif decide (k=9)then oD p 4 else p
def bDynA (k a:Int):Int:=bif decide (k=0)then a else bif decide (k=8)then a else bif decide (k=9)then a else bif decide (k=1)then a else bif decide (k=4)then a else bif decide (k=11)then 0 else a
def Ur (t:bE):Int:=bif decide (t.Kind=1)then t.N else -1
def Wm (lN lS:Li 0) (i:Int) (r:gX):lM:=⟨bDynP r.Kind (Kw lN lS i r).P,bDynK r.Kind,Ur r.To,bDynA r.Kind (oD (Kw lN lS i r).S (Kw lN lS i r).A)⟩
theorem hc_bdyn {uName:ByteArray} {eO:Bool} {aj:Li 19} {ak:Li 21} {aJ:Li 23} {aT:Li 6} {aS:Li 6} {aY:Li 1} {aG:Int} {aU:Int} {aL:Int} {aF:Int} {aH:Li 27} {aD:Li 31} {ay:Li 0} {aB:Li 0} {aI:Li 35} {bJ:Int} {bD:Int} {aX:Int} {dX:Int} {mA:ByteArray} {mB:Bool} {mC:Int} {mD:Int} {mE:Int} {mF:ByteArray} {mG:ByteArray} {mH:Int} {mK:Li 21} {mL:Li 0} {mQ:Int} {mR:Li 1} {mS:Li 27} {mI:Li 38} {mJ:Li 40} {mM:Li 0} {mN:Li 42} {mO:Li 0} {mP:Li 0} {mT:Li 9} {mU:Li 11} {mV:Li 44} {mW:Li 13} {mX:Li 46} {mY:Li 17} {mZ:Li 49} {bs:Li 3} {tl:Li 3} {ok:Bool} {i_ pX dB dn jM dV dh jc:Int} (hw:WhOk ay aB i_ (⟨pX,dB,⟨dn,jM,dV,dh⟩,jc⟩:gX)) (hD:@ln (ah 42) mN<=1099511627776):HC E0 54 16 [.loc 0 0,.i i_,.agg [.i pX,.i dB,.i dn,.i jM,.i dV,.i dh,.i jc]] [(0,Ee uName eO aj ak aJ aT aS aY aG aU aL aF aH aD ay aB aI bJ bD aX dX mA mB mC mD mE mF mG mH 1 2 mK mL 3 4 5 6 mQ mR mS 7 8 9 10 11 12 13 14 15 ok),(1,.arr 75 none 38 mI),(2,.arr 137 none 40 mJ),(3,.arr 3 none 0 mM),(4,.arr 73 none 42 mN),(5,.arr 3 none 0 mO),(6,.arr 3 none 0 mP),(7,.arr 61 none 9 mT),(8,.arr 63 none 11 mU),(9,.arr 133 none 44 mV),(10,.arr 129 none 13 mW),(11,.arr 88 none 46 mX),(12,.arr 131 none 17 mY),(13,.arr 142 none 49 mZ),(14,.arr 5 none 3 bs),(15,.arr 5 none 3 tl)] (fun s H n=>s=.jm []/\H=[(0,Ee uName eO aj ak aJ aT aS aY aG aU aL aF aH aD ay aB aI bJ bD aX dX mA mB mC mD mE mF mG mH 1 2 mK mL 3 16 5 6 mQ mR mS 7 8 9 10 11 12 13 14 15 ok),(1,.arr 75 none 38 mI),(2,.arr 137 none 40 mJ),(3,.arr 3 none 0 mM),(16,.arr 73 none 42 (@HAppend.hAppend (List lM) (List lM) (List lM) _ mN [Wm ay aB i_ (⟨pX,dB,⟨dn,jM,dV,dh⟩,jc⟩:gX)])),(5,.arr 3 none 0 mO),(6,.arr 3 none 0 mP),(7,.arr 61 none 9 mT),(8,.arr 63 none 11 mU),(9,.arr 133 none 44 mV),(10,.arr 129 none 13 mW),(11,.arr 88 none 46 mX),(12,.arr 131 none 17 mY),(13,.arr 142 none 49 mZ),(14,.arr 5 none 3 bs),(15,.arr 5 none 3 tl)]/\n=17):=by
 refine dG (DB:=[F_AJ]) (IL:=[I_Eu]) (WL:=[]) (fn:=Proofs.Tryz.f54) rfl rfl rfl rfl (by unfold dA;kernel_rfl) (fun hk=>?_)
 simp only [know]at hk;have hap:∀ x:ah 42,(@ln (ah 42) mN+@ln (ah 42) [x])*BT 42<=140737488355328:=fun x=>by show(_+1)*32<=_;omega
 repeat' first|(refine w_ ?_;first|(apply aP;focus (exact hw))|refine XT bK trivial ?_|(refine Or.inr (Or.inl ⟨[1,0,1,1,3,1,3],(.take 0 (.take 3 (.two 1 (.take 2 (.one 4 (.take 5 (.one 6 .done)))) 4 (.take 1 (.take 2 (.take 5 (.one 6 .done))))))),by decide +kernel,?_⟩))|(refine And.intro ?_ ?_))|apply B_<;>intro h hc|apply I_;intro h
 all_goals conv=>whnf
 refine Or.inr (Or.inr ⟨[],[],[],[18],[0,5,6,7],[],?_⟩);conv=>whnf
 refine⟨fun(_:Unit) (t:(Int×(Int×(Int×(Int×Unit))))×Unit)=>∃ q,t=(((Kw ay aB i_ (⟨pX,dB,⟨dn,jM,dV,dh⟩,jc⟩:gX)).P,0,q,oD (Kw ay aB i_ (⟨pX,dB,⟨dn,jM,dV,dh⟩,jc⟩:gX)).S (Kw ay aB i_ (⟨pX,dB,⟨dn,jM,dV,dh⟩,jc⟩:gX)).A,()),())/\q=Ur (⟨dn,jM,dV,dh⟩:bE),?_,?_⟩
 ·repeat' first|(refine w_ ?_;first|refine bO bK trivial ?_|(refine Or.inr (Or.inl ⟨[1,0,1,1,3,1,3],(.take 0 (.take 3 (.two 1 (.take 2 (.one 4 (.take 5 (.one 6 .done)))) 4 (.take 1 (.take 2 (.take 5 (.one 6 .done))))))),by decide +kernel,?_⟩))|(refine And.intro ?_ ?_))|apply B_<;>intro h hc|apply I_;intro h
  all_goals conv=>whnf
  all_goals (refine⟨_,rfl,?_⟩;unfold Ur;exact lI)
 ·rintro _ _ ⟨_,rfl,rfl⟩
  repeat' first|(refine w_ ?_;first|refine XT bK trivial ?_|(refine Or.inr (Or.inl ⟨[1,0,1,1,3,1,3],(.take 0 (.take 3 (.two 1 (.take 2 (.one 4 (.take 5 (.one 6 .done)))) 4 (.take 1 (.take 2 (.take 5 (.one 6 .done))))))),by decide +kernel,?_⟩))|(refine And.intro ?_ ?_))|apply B_<;>intro h hc|apply I_;intro h
  all_goals conv=>whnf
  refine Or.inr (Or.inr ⟨[],[],[],[18],[0,7],[],?_⟩);conv=>whnf
  refine⟨fun(_:Unit) (t:(Int×(Int×(Int×(Int×Unit))))×Unit)=>∃ p q x,t=((p,q,Ur (⟨dn,jM,dV,dh⟩:bE),x,()),())/\p=bDynP dB (Kw ay aB i_ (⟨pX,dB,⟨dn,jM,dV,dh⟩,jc⟩:gX)).P/\q=bDynK dB/\x=bDynA dB (oD (Kw ay aB i_ (⟨pX,dB,⟨dn,jM,dV,dh⟩,jc⟩:gX)).S (Kw ay aB i_ (⟨pX,dB,⟨dn,jM,dV,dh⟩,jc⟩:gX)).A),?_,?_⟩
  ·repeat' first|(refine w_ ?_;first|refine bO bK trivial ?_|(refine Or.inr (Or.inl ⟨[1,0,1,1,3,1,3],(.take 0 (.take 3 (.two 1 (.take 2 (.one 4 (.take 5 (.one 6 .done)))) 4 (.take 1 (.take 2 (.take 5 (.one 6 .done))))))),by decide +kernel,?_⟩))|(refine And.intro ?_ ?_))|apply B_<;>intro h hc|apply I_;intro h
   all_goals conv=>whnf
   all_goals (refine⟨_,_,_,rfl,?_,?_,?_⟩)
   all_goals ((try dsimp only);first|unfold bDynP|unfold bDynK|unfold bDynA)
   all_goals exact lI
  ·rintro _ _ ⟨p,q,x,rfl,rfl,rfl,rfl⟩
   repeat' first|(refine w_ ?_;first|(apply aP;focus (exact hap _))|refine bO bK trivial ?_|(refine Or.inr (Or.inl ⟨[1,0,1,1,3,1,3],(.take 0 (.take 3 (.two 1 (.take 2 (.one 4 (.take 5 (.one 6 .done)))) 4 (.take 1 (.take 2 (.take 5 (.one 6 .done))))))),by decide +kernel,?_⟩))|(refine And.intro ?_ ?_))|apply B_<;>intro h hc|apply I_;intro h
   all_goals conv=>whnf
   refine⟨[],[],_,_,[20],⟨rfl,rfl,rfl⟩,?_⟩
   conv=>whnf
   refine w_ ?_;repeat' (first|((with_reducible apply And.intro)<;>(first|(with_reducible refine iK ?_;apply rfl)|(with_reducible refine eY ?_;apply rfl)|(refine w_ ?_)))|(with_reducible apply trivial)|apply rfl|apply(Or.inl rfl)|apply(Or.inr rfl)|apply(Or.inr (Or.inl rfl))|apply trivial|(apply And.intro<;>(refine w_ ?_)))
abbrev NdR:=ByteArray×List lM×Bool
def zL (N:Li 19) (lN lS:Li 0) (T:Li 35) (i:Int) (k:Nat) (s:ByteArray×List lM) (next:ByteArray×List lM->NdR):NdR :=
 bif !F9 (Cv N i k).Kind (Cv N i k).To.Kind then next (s.1,@HAppend.hAppend (List lM) (List lM) (List lM) _ s.2 [Wm lN lS i (Cv N i k)])
 else bif !(mq s.1 (Cv N i k).At (Cv N i k).Kind (Wj N lN lS T i k)).2 then(s.1,s.2,false)else next ((mq s.1 (Cv N i k).At (Cv N i k).Kind (Wj N lN lS T i k)).1,s.2)
def Md (s:ByteArray×List lM):NdR:=(s.1,s.2,true)
def ndW (N:Li 19) (lN lS:Li 0) (T:Li 35) (i:Int) (d:List lM):NdR:=lp (zL N lN lS T i) Md (@ln (ah 7) (gt 19 N i.toNat:aM).Refs) 0 ((gt 19 N i.toNat:aM).Bytes,d)
theorem ex4 {α β γ:Type} {F m q:α×β×γ->Prop} (a:α) {b:β} {c:γ} (hq:q (a,b,c)) (hm:m (a,b,c)) (hF:F (a,b,c)):∃ s,F s/\m s/\q s:=⟨(a,b,c),hF,hm,hq⟩
def NZ (k a:Int) (s:ByteArray) (b:Li 3):Li 3:=bif decide (k=0)||decide (k=1)then vS b a.toNat b.length s.data.toList else b
def Me (e:Int) (t:Li 3):Li 3:=bif decide ((@ln (ah 3) t:Nat)<e)then @HAppend.hAppend (List UInt8) (List UInt8) (List UInt8) _ t (List.replicate (e-(@ln (ah 3) t:Nat)).toNat 0)else t
def NY (k a z:Int) (s:ByteArray) (t:Li 3):Li 3:=bif decide (k=3)then vS (Me (a+z) t) a.toNat (Me (a+z) t).length s.data.toList else t
theorem GI {k a:Int} {s:ByteArray} {b:Li 3} (h:(decide (k=0)||decide (k=1))=true):vS b a.toNat b.length s.data.toList=NZ k a s b:=by unfold NZ;rw [h];rfl
theorem GJ {k a:Int} {s:ByteArray} {b:Li 3} (h:(decide (k=0)||decide (k=1))=false):b=NZ k a s b:=by unfold NZ;rw [h];rfl
theorem GH {k a z:Int} {s:ByteArray} {t:Li 3} (h:decide (k=3)=false):t=NY k a z s t:=by unfold NY;rw [h];rfl
theorem YV {e:Int} {t:Li 3} (h:(@ln (ah 3) t:Nat)<e):Me e t = @HAppend.hAppend (List UInt8) (List UInt8) (List UInt8) _ t (List.replicate (e-(@ln (ah 3) t:Nat)).toNat 0):=by unfold Me;rw [decide_eq_true h];rfl
theorem YW {e:Int} {t:Li 3} (h:¬ (@ln (ah 3) t:Nat)<e):Me e t=t:=by unfold Me;rw [decide_eq_false h];rfl
theorem GD {k a z:Int} {s:ByteArray} {t u:Li 3} (h:decide (k=3)=true) (hu:Me (a+z) t=u):vS u a.toNat u.length s.data.toList=NY k a z s t:=by unfold NY;rw [h,hu];rfl
theorem RH {e:Int} {t:Li 3} (h:(@ln (ah 3) t:Nat)<e):(@ln (ah 3) (@HAppend.hAppend (List UInt8) (List UInt8) (List UInt8) _ t (List.replicate (e-(@ln (ah 3) t:Nat)).toNat 0)):Int)=e:=by
 have:@ln (ah 3) (@HAppend.hAppend (List UInt8) (List UInt8) (List UInt8) _ t (List.replicate (e-(@ln (ah 3) t:Nat)).toNat 0))=@ln (ah 3) t+(e-(@ln (ah 3) t:Nat)).toNat:=by
   refine(@List.length_append UInt8 t _).trans ?_;rw [List.length_replicate];rfl
 rw [this];omega
end Go.SX
