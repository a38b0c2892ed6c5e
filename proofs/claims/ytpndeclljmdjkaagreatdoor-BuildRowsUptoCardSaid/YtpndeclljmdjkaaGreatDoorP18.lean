/- A part of the proof (texts B16, B17). -/
import Derived.Test.YtpndeclljmdjkaaGreatDoorP10
import Derived.Test.YtpndeclljmdjkaaGreatDoorP13
set_option linter.all false
set_option maxRecDepth 100000
namespace Go.SX
open List renaming length_append -> dL
open Go.XK Go.RowKit
set_option maxHeartbeats 40000000
noncomputable section
theorem LG {k:Int} (h:Cu k=true):0<=k/\k<((13:Nat):Int):=by simpa [Cu] using h
def zD (k v:Int):Bool :=
 bif decide (k=3)then decide (0<=v)&&decide (v<65536)
 else bif decide (k=6)then decide (v.tmod 8=0)&&decide (-512<=v)&&decide (v<512)
 else Cu k&&(decide ((gt 54 oJ k.toNat).size=8)||lV v 32 true)
def F_DC:Fact E0:=bM 156 Proofs.Tryz.f156 rfl rfl rfl [.i,.i] (fun k v=>.ok (.b (zD k v))) [F_DH,F_Em] [] (by
   repeat intro _
   refine dP rfl rfl fun hk=>?_
   repeat' first|(refine w_ ?_;first|(apply aP;focus (first|(intro hq<;>exact LG hq)|exact LG (by assumption)))|refine bO bK trivial ?_)|apply B_<;>intro h hc|apply I_;intro h
   all_goals conv=>whnf
   all_goals (unfold zD;(repeat (first|exact rfl|refine gW (by assumption) ?_|refine gB (by assumption) ?_|refine jY (by first|assumption|omega) ?_|refine jZ (by first|assumption|omega) ?_))))
def F9 (k t:Int):Bool :=
 bif decide (t=0)then Cu k&&!decide (k=0)&&!decide (k=8)&&!decide (k=9)&&!decide (k=11)
 else bif decide (t=1)then decide (k=6)||decide (k=7)else Cu k&&decide (t=2)
def F_DB:Fact E0:=bM 53 Proofs.Tryz.f53 rfl rfl rfl [.i,.i] (fun k t=>.ok (.b (F9 k t))) [F_DH] [] kI
def LC (s:ByteArray) (p k:Int):Int×Bool :=
 bif !Cu k||decide (p<0)||decide ((s.size:Int)<p)then(0,false)
 else(WX s (IntKind.i64.wrap (p+(gt 54 oJ k.toNat).off)) (gt 54 oJ k.toNat).size (!decide (k=3)),l7 s (IntKind.i64.wrap (p+(gt 54 oJ k.toNat).off)) (gt 54 oJ k.toNat).size)
theorem T9 (n:Nat):0<=(gt 54 oJ n).off/\(gt 54 oJ n).off<=8/\0<=(gt 54 oJ n).size/\(gt 54 oJ n).size<=8:=by
 by_cases h:n<13
 ·have:n=0\/n=1\/n=2\/n=3\/n=4\/n=5\/n=6\/n=7\/n=8\/n=9\/n=10\/n=11\/n=12:=by omega
  rcases this with rfl|rfl|rfl|rfl|rfl|rfl|rfl|rfl|rfl|rfl|rfl|rfl|rfl<;>decide +kernel
 ·have e:gt 54 oJ n=(⟨0,0,[]⟩:oh):=by
    show(oJ:List oh).getD n ⟨0,0,[]⟩=⟨0,0,[]⟩;rw [List.getD_eq_getElem?_getD,List.getElem?_eq_none (show(oJ:List oh).length<=n by show 13<=n;omega)]
    rfl
  rw [e];decide
def F_DD:Fact E0:=bM 10 Proofs.Tryz.f10 rfl rfl rfl [.s,.i,.i] (fun s p k=>.ok (.jm [.i (LC s p k).1,.b (LC s p k).2])) [F_DH,F_En] [] (by
   intro s p k;refine dP rfl rfl fun hk=>?_
   have hgr:=T9 k.toNat;simp only [know]at hk;generalize hz:LC s p k=z
   repeat' first|(refine w_ ?_;first|(apply aP;focus (exact LG h.1.1))|refine bO bK trivial ?_)|apply B_<;>intro h hc|apply I_;intro h
   all_goals conv=>whnf
   all_goals (unfold LC at hz;(repeat (first|replace hz:=qV (by assumption) hz|replace hz:=nE (by assumption) hz|replace hz:=wT (by first|assumption|omega) hz|replace hz:=wX (by first|assumption|omega) hz));subst hz;exact bA))
def Sm (r:gX):Bool:=decide (r.To.Kind=1)&&(decide (r.Kind=7)||decide (r.Kind=6))
def F_Da:Fact E0:=bM 142 Proofs.Tryz.f142 rfl rfl rfl [.g zH] (fun pX dB dn jM dV dh jc=>.ok (.b (Sm (⟨pX,dB,⟨dn,jM,dV,dh⟩,jc⟩:gX)))) [] [] kI
def oz (k:Int):Bool:=decide (k=3)||decide (k=4)
def F_Cx:Fact E0:=bM 42 Proofs.Tryz.f42 rfl rfl rfl [.i] (fun k=>.ok (.b (oz k))) [] [] kI
def kK (k:Int):Int:=(jA (fV (fV (fV ([]:List (ah 0×ah 0)) (0:Int) (0:Int)) (1:Int) (1:Int)) (2:Int) (2:Int)) k).getD (0:Int)
def F_Cy:Fact E0:=bM 44 Proofs.Tryz.f44 rfl rfl rfl [.i] (fun k=>.ok (.i (kK k))) [] [] kI
def yh (lc ld lz lt ln ls un ui:Int):Bool :=
 (decide (lc.tmod 256=0)&&decide (ld.tmod 256=0)&&decide (lz.tmod 256=0))&&(decide (0<=lc)&&decide (lc<=ld)&&decide (ld<=lz)&&decide (lz<=1048576))&&decide (0<=lt)&&decide (lt<=1048576)&&decide (ln=un)&&decide (ls=ui)
def F_Cz:Fact E0:=bM 41 Proofs.Tryz.f41 rfl rfl rfl [.g dH,.g jP] (fun _ _ aj ak _ _ _ _ _ _ _ _ _ _ ay aB _ bJ bD aX dX=>.ok (.b (yh bJ bD aX dX ay.length aB.length aj.length ak.length))) [] [] kI
def F_DL:Fact E0:=Fact.co [.aW none 44 []] ⟨217,a220,by unfold dA;kernel_rfl,o220⟩
theorem NK {l:Li 44} (h:Cz l=true) (k:Nat) (hk:k<l.length):0<=(gt 44 l k).At/\0<=(gt 44 l k).Size/\(gt 44 l k).At+(gt 44 l k).Size<=1099511627776:=by
 have:=List.all_eq_true.1 h k (List.mem_range.2 hk);simp only [rOk,qL,bs]at this;omega
theorem NJ {a s:Int} (h:qL a s=true):0<=a/\0<=s/\a+s<=1099511627776:=by
 simp only [qL,bs]at h;omega
mutual
def fgz:SV->SV
 |.aW _ c l=>.aW none c l
 |.agg l=>.agg (Q8 l)
 |.fp l o=>.fp (Q8 l) o
 |s=>s
def Q8:List SV->List SV
 |[]=>[]
 |s::r=>fgz s::Q8 r
end
section
variable {m:Mm} {ids:List Value}
mutual
theorem fgz_den:∀ (s:SV) {y:Value},Den m ids s y->Den m ids (fgz s) y:=by
 intro s y hd;cases s<;>simp only [fgz]<;>try exact hd
 case aW =>
   rw [Den]at hd ⊢;exact hd.anyZ
 case agg =>
   rw [Den]at hd ⊢;obtain⟨us,h1,h2⟩:=hd;exact⟨us,h1,Bg _ h2⟩
 case fp =>
   rw [Den]at hd ⊢;obtain⟨b,q,us,h1,h2,h3,h4⟩:=hd;exact⟨b,q,us,h1,h2,h3,Bg _ h4⟩
theorem Bg:∀ (l:List SV) {us:List Value},aC m ids l us->aC m ids (Q8 l) us:=by
 intro l us hd
 cases l with
 |nil=>simp only [Q8];exact hd
 |cons s q =>
   simp only [Q8];rw [aC]at hd ⊢;obtain⟨u,us',h1,h2,h3⟩:=hd;exact⟨u,us',h1,fgz_den s h2,Bg q h3⟩
end
end
@[reducible] def Fact.fz {E:En} (F:Fact E):Fact E:=⟨F.f,fun args=>F.app (Q8 args),F.fn,fun args m ids vs hG hm hv=>F.ok _ m ids vs hG hm (Bg args hv)⟩
theorem KC {p:Nat->Bool} {n k:Nat} (hk:k<n) (h:p k=true):(List.range n).any p=true:=List.any_eq_true.2 ⟨k,List.mem_range.2 hk,h⟩
theorem KD {p:Nat->Bool} {n:Nat} (h:∀ j,j<n->p j=false):(List.range n).any p=false:=List.any_eq_false.2 fun j hj=>by rw [h j (List.mem_range.1 hj)];decide
def Vf (x:dQ) (a z:Int):Bool:=decide (max x.At a<min (x.At+x.Size) (a+z))
def F_DK:Fact E0:=bM 220 Proofs.Tryz.f220 rfl rfl rfl [.g [.i,.i],.p [.i,.i]] (fun yK rM a z=>.ob (lC (yK+rM)/\lC (a+z)) (.b (Vf (⟨yK,rM⟩:dQ) a z))) [F_DM] [] (by
   repeat intro _
   refine fD rfl rfl fun hb hk=>?_
   repeat' first|refine s_ bK (And.intro hb.1 hb.2) ?_|apply B_<;>intro h hc|apply I_;intro h
   all_goals conv=>whnf
   all_goals rfl)
def I_GA:je E0:=kC 260 Proofs.Tryz.f260 rfl rfl
def F_DU:Fact E0:=bM 219 Proofs.Tryz.f219 rfl rfl rfl [.l 44,.k 220 [] [.p [.i,.i]]] (fun l a z=>.ob ((∀ k:Nat,k<l.length->lC ((gt 44 l k).At+(gt 44 l k).Size))/\lC (a+z)) (.b ((List.range l.length).any (fun k=>Vf (gt 44 l k) a z)))) [F_DK] [I_GA] (by
   intro l a z;refine fD rfl rfl fun hb hk=>?_
   simp only [know]at hk
   repeat' first|(refine w_ ?_;first|(apply aP;focus (exact⟨hb.1 _ au,hb.2⟩))|refine bO bK trivial ?_)|apply B_<;>intro h hc|apply I_;intro h
   all_goals conv=>whnf
   refine Or.inr (Or.inr ⟨[],[8],[],[],[0,1,7],[],?_⟩);conv=>whnf
   refine⟨fun(s:Int×Unit) (_:Unit)=>0<=s.1/\s.1<=l.length/\∀ j:Nat,j<s.1->(fun k=>Vf (gt 44 l k) a z) j=false,fun(s:Int×Unit) (_:Unit)=>(l.length-s.1).toNat,?_⟩
   conv=>whnf
   refine eZ.mk ⟨au,au,fun j hj=>absurd hj au⟩ bA ?_
   rintro⟨(k:Int),_⟩ _ ⟨h0,h1,h2⟩
   try dsimp only at h0 h1 h2
   obtain⟨k,rfl⟩:=Int.eq_ofNat_of_zero_le h0
   repeat' first|(refine w_ ?_;first|(apply aP;focus (exact⟨hb.1 _ au,hb.2⟩))|refine bO bK trivial ?_)|apply B_<;>intro h hc|apply I_;intro h
   all_goals conv=>whnf
   ·(try dsimp only);rw [KC (p:=fun k=>Vf (gt 44 l k) a z) (k:=k) au (by first|assumption|exact h|exact hc|exact ntr hc)];simp
   ·(try dsimp only)
    refine⟨au,au,fun j hj=>?_⟩
    rcases Nat.lt_succ_iff_lt_or_eq.1 (show j<k+1 by omega)with hj|rfl
    ·exact h2 j au
    ·first|assumption|(rename_i hx;exact hx)|(rename_i hx _;exact Et hx)|(rename_i hx _ _;exact Et hx)|(rename_i hx _ _ _;exact Et hx)
   ·rw [KD (p:=fun k=>Vf (gt 44 l k) a z) fun j hj=>h2 j au];rfl)
def Qn (l:Li 44) (a z:Int):Bool:=bif !Cz l || !qL a z then false else(List.range l.length).any (fun k=>Vf (gt 44 l k) a z)
def F_DJ:Fact E0:=bM 140 Proofs.Tryz.f140 rfl rfl rfl [.l 44,.g [.i,.i]] (fun l a z=>.ok (.b (Qn l a z))) [F_DL,F_DN,F_DU] [] (by
   repeat intro _
   refine dP rfl rfl fun hk=>?_
   repeat' first|(refine w_ ?_;first|(apply aP;focus (refine⟨fun k hk=>?_,?_⟩<;>(try have h1:=NK h.1 k hk)<;>have h2:=NJ h.2<;>constructor<;>omega))|refine bO bK trivial ?_)|apply B_<;>intro h hc|apply I_;intro h
   all_goals conv=>whnf
   all_goals (unfold Qn;(repeat (first|exact rfl|refine gW (by assumption) ?_|refine gB (by assumption) ?_|refine jY (by first|assumption|omega) ?_|refine jZ (by first|assumption|omega) ?_))))
@[reducible] def a_GP:List SV->PR
 |[.aW none 44 l]=>.ok (.aW none 44 l)
 |_=>.no
theorem o_Gb:xU 185 a_GP:=by
 intro args m ids vs hG hm hv;unfold a_GP;split
 ·rename_i l;refine aZ (DB:=[]) (IL:=[]) (WL:=[]) (fn:=Proofs.Tryz.f185) rfl rfl rfl rfl rfl rfl (fun hk=>?_) m ids vs hG hm hv
  clear hG hm hv;simp only [know]at hk
  repeat' first|(refine w_ ?_;first|(apply aP;focus (show(0+l.length)*BT 44<=_<;>rw [Nat.zero_add]<;>exact hk.1.1))|refine bO bK trivial ?_)|apply B_<;>intro h hc|apply I_;intro h
  all_goals conv=>whnf
  all_goals first|exact⟨Or.inl rfl,rfl⟩|exact⟨Or.inl rfl,by assumption⟩
 ·trivial
def F_DO:Fact E0:=Fact.co [.aW none 44 []] (Fact.fz ⟨185,a_GP,by unfold dA;kernel_rfl,o_Gb⟩)
theorem lenA {c:Nat} (p:Li c) (x:ah c):((p++[x]).length:Int)=p.length+1:=by simp
theorem app_ob {o l:Li 44} {x:ah 44} {k:Nat} (h1:o.length<=k) (h2:k<l.length) (h3:l.length<=1099511627776):((o++[x]).length+(List.take ((l.length:Int)-(k:Int)).toNat (List.drop k l)).length)*16<=140737488355328:=by
 rw [dL,List.length_take,List.length_drop,List.length_singleton];omega
def DK (l:Li 44) (k:Nat) (s:Li 44×Int×Int) (next:Li 44×Int×Int->Li 44):Li 44 :=
 bif decide ((gt 44 l k).At+(gt 44 l k).Size<s.2.1)then next (s.1++[gt 44 l k],s.2.1,s.2.2)
 else bif decide (s.2.1+s.2.2<(gt 44 l k).At)then(s.1++([(⟨s.2.1,s.2.2⟩:dQ)]:Li 44))++List.take ((l.length:Int)-(k:Int)).toNat (List.drop k l)
 else next (s.1,min (gt 44 l k).At s.2.1,max ((gt 44 l k).At+(gt 44 l k).Size) (s.2.1+s.2.2)-min (gt 44 l k).At s.2.1)
def JC (s:Li 44×Int×Int):Li 44:=s.1++([(⟨s.2.1,s.2.2⟩:dQ)]:Li 44)
def jc (l:Li 44) (a z:Int):Li 44:=bif !Cz l || !qL a z||decide (z=0)then l else lp (DK l) JC l.length 0 ([],a,z)
theorem CB {l:Li 44}:∀ (r k:Nat) (o:Li 44) (a z:Int),k+r=l.length->(lp (DK l) JC r k (o,a,z)).length<=o.length+r+1
 |0,k,o,a,z,_=>by
   show(JC (o,a,z)).length<=_;unfold JC;rw [dL];exact Nat.le_refl _
 |r+1,k,o,a,z,h=>by
   rw [lp];unfold DK
   cases decide ((gt 44 l k).At+(gt 44 l k).Size<a)with
   |true =>
     refine Nat.le_trans (CB r (k+1) _ a z au) ?_
     rw [dL];show o.length+1+r+1<=_;omega
   |false =>
     cases decide (a+z<(gt 44 l k).At)with
     |true =>
       show((o++_)++_).length<=_;rw [dL,dL,List.length_take,List.length_drop];show o.length+1+_<=_;omega
     |false=>exact Nat.le_trans (CB r (k+1) o _ _ au) au
theorem AJ (l:Li 44) (a z:Int):(jc l a z).length<=l.length+1:=by
 unfold jc
 cases !Cz l || !qL a z||decide (z=0)with
 |true=>exact Nat.le_succ _
 |false=>exact Nat.le_trans (CB l.length 0 [] a z au) (by simp)
def F_DI:Fact E0:=bM 141 Proofs.Tryz.f141 rfl rfl rfl [.l 44,.g [.i,.i]] (fun l a z=>.ob ((l.length:Int)<=1099511627776) (.aW none 44 (jc l a z))) [F_DL,F_DN,F_DO,F_DM] [] (by
   intro l a z;refine fD rfl rfl fun hb hk=>?_
   generalize hz:jc l a z=rr;simp only [know]at hk
   repeat' first|refine dM ?_|apply B_<;>intro h hc|apply I_;intro h
   all_goals conv=>whnf
   ·unfold jc at hz;(repeat (first|replace hz:=qV (by assumption) hz|replace hz:=nE (by assumption) hz|replace hz:=wT (by first|assumption|omega) hz|replace hz:=wX (by first|assumption|omega) hz));subst hz;exact bA
   unfold jc at hz;replace hz:=nE (by assumption) hz
   have hr:Cz l=true/\qL a z=true:=by simp only [bs]at hc;exact hc.1
   have hv:=NJ hr.2;refine Or.inr (Or.inr ⟨[(5,133,44)],[5,26],[],[0],[0,3,24,25],[],?_⟩);conv=>whnf
   refine⟨fun(s:Unit×Int×Unit) (t:Li 44×(Int×Int×Unit)×Unit)=>0<=s.2.1/\s.2.1<=l.length/\(t.1.length:Int)<=s.2.1/\0<=t.2.1.1/\0<=t.2.1.2.1/\t.2.1.1+t.2.1.2.1<=1099511627776/\rr=lp (DK l) JC (l.length-s.2.1.toNat) s.2.1.toNat (t.1,t.2.1.1,t.2.1.2.1),fun(s:Unit×Int×Unit) _=>(l.length-s.2.1).toNat,?_⟩
   conv=>whnf
   refine eZ.mk ⟨bg,bg,by simp,bg,bg,bg,hz.symm⟩ bA ?_
   rintro⟨_,(k:Int),_⟩ ⟨(o:Li 44),⟨(a1:Int),(z1:Int),_⟩,_⟩ ⟨h0,h1,hF,g1,g2,g3,hS⟩
   try dsimp only at h0 h1 hF g1 g2 g3 hS
   obtain⟨k,rfl⟩:=Int.eq_ofNat_of_zero_le h0;rw [Int.toNat_natCast]at hS;rcases Nat.lt_or_ge k l.length with hkl|hkl
   ·have hx:=NK hr.1 k hkl
    repeat' first|(refine w_ ?_;first|(apply aP;focus (first|(constructor<;>omega)|(show(_+1)*16<=_<;>omega)|exact app_ob au au au))|refine bO bK trivial ?_)|apply B_<;>intro h hc|apply I_;intro h
    all_goals conv=>whnf
    all_goals first
     |((try dsimp only);(try simp only [Int.toNat_natCast]);refine⟨au,au,by first|omega|exact Int.le_trans (Int.le_of_eq (lenA (c:=44) _ _)) au,au,au,au,hS.trans ((cK au).trans ?_)⟩;rw [show((k:Int)+1).toNat=k+1 by omega];symm;unfold DK;(try dsimp only);all_goals exact lI)
     |(refine⟨Or.inl rfl,?_⟩;refine Eq.trans (b:=DK l k (o,a1,z1) (fun s=>lp (DK l) JC (l.length-(k+1)) (k+1) s)) ?_ (hS.trans (cK au)).symm;unfold DK;(try dsimp only);all_goals exact lI)
     |(exfalso;omega)
   ·repeat' first|(refine w_ ?_;first|(apply aP;focus (first|(constructor<;>omega)|(show(_+1)*16<=_<;>omega)|exact app_ob au au au))|refine bO bK trivial ?_)|apply B_<;>intro h hc|apply I_;intro h
    all_goals conv=>whnf
    all_goals first
     |(exfalso;omega)
     |(refine⟨Or.inl rfl,?_⟩;exact(hS.trans (iZ au)).symm))
end
end Go.SX
