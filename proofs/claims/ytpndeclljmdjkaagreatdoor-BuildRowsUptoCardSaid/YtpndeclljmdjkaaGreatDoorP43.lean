/- A part of the proof (texts B75, B76). -/
import Derived.Test.YtpndeclljmdjkaaGreatDoorP10
import Derived.Test.YtpndeclljmdjkaaGreatDoorP40
import Derived.Test.YtpndeclljmdjkaaGreatDoorP42
set_option linter.all false
set_option maxRecDepth 100000
namespace Go.SX
open List renaming length -> ln
open Go.XK Go.RowKit
set_option maxHeartbeats 40000000
def PlOk (l:Li 38):Prop:=∀ k,k<@ln (ah 38) l->Ai (gt 38 l k).gD/\Ai (gt 38 l k).Obj
abbrev Yl (l:Li 38) (k:Nat):fB:=gt 38 l k
abbrev spN (a s:Int):ah 44:=(⟨a,s⟩:dQ)
abbrev innB (k:Int):Bool:=decide (k=0)||decide (k=1)||decide (k=2)
def ZR (c d z b:Int) (l:Li 38):Bool:=lp (oW (fun k=>sI c d z b (gt 38 l k))) oV l.length 0 ()
def n1B (M:Li 38) (k:Nat) (s:Li 44×Li 44×List (ah 60×ah 2)) (next:Li 44×Li 44×List (ah 60×ah 2)->Bool):Bool :=
 bif (jA s.2.2 (prN (Yl M k).Obj (Yl M k).gD)).getD false then false
 else bif innB (Yl M k).Kind then next (s.1++[spN (Yl M k).At (Yl M k).Size],s.2.1,fV s.2.2 (prN (Yl M k).Obj (Yl M k).gD) true)
 else next (s.1,s.2.1++[spN (Yl M k).At (Yl M k).Size],fV s.2.2 (prN (Yl M k).Obj (Yl M k).gD) true)
def n2B (S:Li 0) (c:Int) (k:Nat) (s:Li 44) (next:Li 44->Bool):Bool :=
 bif !tK c (s0 S k)||(decide ((0:Int)<(k:Nat))&&decide (s0 S k<=s0 S ((k:Int)-1).toNat))then false else next (s++[spN (s0 S k) 8])
def n2F (b:Li 44) (s:Li 44):Bool:=qh s&&qh b
def n1F (S:Li 0) (c:Int) (s:Li 44×Li 44×List (ah 60×ah 2)):Bool:=lp (n2B S c) (n2F s.2.1) (@ln (ah 0) S) 0 s.1
def A9 (M:Li 38) (S:Li 0) (c:Int):Bool:=lp (n1B M) (n1F S c) (@ln (ah 38) M) 0 ([],[],[])
def wW (c d z b:Int) (M:Li 38) (S:Li 0):Bool:=decide ((4096:Int)<(@ln (ah 38) M:Nat))||decide ((4096:Int)<(@ln (ah 0) S:Nat)) || !ZR c d z b M
def Mx (c d z b:Int) (M:Li 38) (S:Li 0):Bool:=bif wW c d z b M S then false else A9 M S c
noncomputable def F_Aj:Fact E0:=bM 80 Proofs.Tryz.f80 rfl rfl rfl [.l 38,.k 81 [] [.p dD]] (fun l _ _ mC mD mE _ _ mH _ _ _ _ _ _ _ _ _ _ _ _ _ _ _ _ _ _=>.ob (PlOk l) (.b (lp (oW (fun k=>sI mC mD mE mH (gt 38 l k))) oV l.length 0 ()))) [F_BM] [] (by
   intro l _ _ mC mD mE _ _ mH
   repeat intro _
   refine fD rfl rfl fun hb hk=>?_
   simp only [know]at hk
   repeat' first|(refine w_ ?_;first|(apply aP;focus (exact hb _ au))|refine bO bK trivial ?_)|apply B_<;>intro h hc|apply I_;intro h
   all_goals conv=>whnf
   refine Or.inr (Or.inr ⟨[],[9],[],[],[1,7,8],[],?_⟩);conv=>whnf
   refine⟨fun(s:Int×Unit) (t:Unit)=>0<=s.1/\s.1<=l.length/\lp (oW (fun k=>sI mC mD mE mH (gt 38 l k))) oV l.length 0 ()=lp (oW (fun k=>sI mC mD mE mH (gt 38 l k))) oV (l.length-s.1.toNat) s.1.toNat (()),fun(s:Int×Unit) (_:Unit)=>(l.length-s.1).toNat,?_⟩
   conv=>whnf
   refine eZ.mk ⟨bg,bg,rfl⟩ bA ?_
   rintro⟨(k:Int),_⟩ _ ⟨h0,h1,hS⟩
   try dsimp only at h0 h1 hS
   obtain⟨k,rfl⟩:=Int.eq_ofNat_of_zero_le (show(0:Int)<=k by omega)
   rw [Int.toNat_natCast]at hS
   repeat' first|(refine w_ ?_;first|(apply aP;focus (exact hb _ au))|refine bO bK trivial ?_)|apply B_<;>intro h hc|apply I_;intro h
   all_goals conv=>whnf
   all_goals exact l5)
theorem Gj {p:Nat->Bool}:∀ (n k:Nat),lp (oW p) oV n k ()=true->∀ j,k<=j->j<k+n->p j=true
 |0,k,_,j,h1,h2=>absurd h2 au
 |n+1,k,h,j,h1,h2=>by
   have h3:(bif !p k then false else lp (oW p) oV n (k+1) ())=true:=h
   cases hp:p k with
   |false=>rw [hp]at h3;cases h3
   |true =>
     rw [hp]at h3
     by_cases e:j=k
     ·rw [e];exact hp
     ·exact Gj n (k+1) h3 j au au
theorem ZN {c d z b:Int} {x:fB} (h:sI c d z b x=true):0<=x.At/\x.At<=1048576/\0<=x.Size/\x.Size<=1048576:=by
 unfold sI at h
 cases hc:MB x with
 |true=>rw [hc]at h;cases h
 |false =>
   unfold MB at hc;simp only [Bool.or_eq_false_iff,Bool.not_eq_false',jX,Bool.and_eq_true,decide_eq_true_iff]at hc;obtain⟨⟨_,h1,h2⟩,h3,h4⟩:=hc;exact⟨h3,h4,h1,h2⟩
theorem imIns_b {c n:Int} (h0:0<=c) (h1:c<=1048576) (h:tK c n=true):0<=n/\n<=1099511627776:=by
 unfold tK jX at h;rw [kZ ⟨au,au⟩]at h
 simp only [Bool.and_eq_true,decide_eq_true_iff]at h;exact⟨h.1.1,au⟩
def APk (a b:Li 44) (n:Nat):Prop:=@ln (ah 44) a<=n/\@ln (ah 44) b<=n/\Js a/\Js b
theorem Js.nil:Js []:=fun _ h=>by cases h
theorem Js.add {l:Li 44} (h:Js l) {a s:Int} (h1:0<=a) (h2:a<=1099511627776) (h3:s<=1099511627776):Js (l++[spN a s]):=fun x hx=>by
 rcases List.mem_append.1 hx with hx|hx
 ·exact h x hx
 ·rw [List.mem_singleton.1 hx];exact⟨h1,h2,h3⟩
theorem APk.left {a b:Li 44} {n:Nat} (h:APk a b n) {x s:Int} (h1:0<=x) (h2:x<=1099511627776) (h3:s<=1099511627776):APk (a++[spN x s]) b (n+1) :=
 ⟨by rw [List.length_append];exact Nat.succ_le_succ h.1,Nat.le_succ_of_le h.2.1,h.2.2.1.add h1 h2 h3,h.2.2.2⟩
theorem APk.right {a b:Li 44} {n:Nat} (h:APk a b n) {x s:Int} (h1:0<=x) (h2:x<=1099511627776) (h3:s<=1099511627776):APk a (b++[spN x s]) (n+1) :=
 ⟨Nat.le_succ_of_le h.1,by rw [List.length_append];exact Nat.succ_le_succ h.2.1,h.2.2.1,h.2.2.2.add h1 h2 h3⟩
theorem ap_len {l:Li 44} {n:Nat} (h:@ln (ah 44) l<=n) (hn:n<=10000) (x:ah 44):(@ln (ah 44) l+@ln (ah 44) [x])*BT 44<=140737488355328:=by
 show(@ln (ah 44) l+1)*16<=_;omega
theorem Oy {c d z b:Int} {M:Li 38} {S:Li 0} (h:wW c d z b M S=false):@ln (ah 38) M<=4096/\@ln (ah 0) S<=4096/\∀ k,k<@ln (ah 38) M->sI c d z b (gt 38 M k)=true:=by
 unfold wW at h;rw [Bool.or_eq_false_iff,Bool.or_eq_false_iff]at h;obtain⟨⟨h1,h2⟩,h3⟩:=h;have h1:=of_decide_eq_false h1;have h2:=of_decide_eq_false h2;refine⟨au,au,fun k hk=>?_⟩
 have h3:ZR c d z b M=true:=by simpa using h3
 exact Gj _ 0 h3 k (Nat.zero_le _) (by rw [Nat.zero_add];exact hk)
noncomputable def F_BL:Fact E0:=bM 26 Proofs.Tryz.f26 rfl rfl rfl [.g dD] (fun _ _ mC mD mE _ _ mH mI _ _ _ mM _ _ _ _ _ _ _ _ _ _ _ _ _=>.ob (PlOk mI/\0<=mC/\mC<=1048576) (.b (Mx mC mD mE mH mI mM))) [F_Aj,F_BF,F_BG,F_An] [] (by
   intro _ _ mC mD mE _ _ mH mI _ _ _ mM
   repeat intro _
   refine fD rfl rfl fun hb hk=>?_
   obtain⟨hb,hc0,hc1⟩:=hb;have hg:Mx mC mD mE mH mI mM=(bif wW mC mD mE mH mI mM then false else A9 mI mM mC):=rfl;have hg2:A9 mI mM mC=lp (n1B mI) (n1F mM mC) (@ln (ah 38) mI) 0 ([],[],[]):=rfl;rw [hg];generalize A9 mI mM mC=Z at hg2;clear hg
   repeat' first|(refine w_ ?_;first|(apply aP;focus (exact fun _=>hb))|refine bO bK @hb ?_)|apply B_<;>intro h hc|apply I_;intro h
   all_goals conv=>whnf
   ·exact gW (by assumption) rfl
   have hg0:wW mC mD mE mH mI mM=false:=by assumption
   obtain⟨hN,hSt,hAll⟩:=Oy hg0;refine Or.inr (Or.inr ⟨[(3,133,44),(4,133,44)],[3,4,33],[],[1],[1,5,31,32,77,78,79,80,81,82,83,84,85,86,87,88,99,100],[],?_⟩);conv=>whnf
   refine⟨fun(s:Unit×Unit×Int×Unit) (t:Li 44×(Li 44×(List (ah 60×ah 2)×Unit)))=>∃ k:Nat,s.2.2.1=k/\k<=@ln (ah 38) mI/\APk t.1 t.2.1 k/\Z=lp (n1B mI) (n1F mM mC) (@ln (ah 38) mI-k) k (t.1,t.2.1,t.2.2.1),fun(s:Unit×Unit×Int×Unit) _=>((@ln (ah 38) mI:Nat)-s.2.2.1).toNat,?_⟩
   conv=>whnf
   refine eZ.mk ⟨0,rfl,Nat.zero_le _,⟨Nat.le_refl _,Nat.le_refl _,Js.nil,Js.nil⟩,hg2⟩ bA ?_;rintro⟨_,_,(k:Int),_⟩ ⟨(m0:Li 44),(b0:Li 44),(q0:List (ah 60×ah 2)),_⟩ ⟨k,hk1,hk2,hA,hS⟩;replace hk1:_=(k:Int):=hk1;subst hk1;replace hk2:k<=@ln (ah 38) mI:=hk2;replace hA:APk m0 b0 k:=hA;replace hS:Z=lp (n1B mI) (n1F mM mC) (@ln (ah 38) mI-k) k (m0,b0,q0):=hS;refine gK fun K hK=>?_
   by_cases hkl:k<@ln (ah 38) mI
   ·have hd:decide ((k:Int)<(@ln (ah 38) mI:Nat))=true:=decide_eq_true au
    have hS2:=hS.trans (cK hkl);have hx:=ZN (hAll k hkl);have hA1:=hA.1;have hA2:=hA.2.1;have hn:k<=10000:=by omega
    repeat' first|(refine jU ?_;first|(apply aP;focus (exact ap_len (n:=k) (by assumption) hn _))|refine bO bK trivial ?_)|apply B_<;>intro h hc|apply I_;intro h
    all_goals refine iw ?_
    all_goals first
     |(refine gB hg0 ?_;refine Eq.trans ?_ hS2.symm;unfold n1B;all_goals exact lI)
     |(refine⟨k+1,rfl,hkl,hA.left hx.1 (Int.le_trans hx.2.1 (by decide)) (Int.le_trans hx.2.2.2 (by decide)),hS2.trans ?_⟩;symm;unfold n1B;all_goals exact lI)
     |(refine⟨k+1,rfl,hkl,hA.right hx.1 (Int.le_trans hx.2.1 (by decide)) (Int.le_trans hx.2.2.2 (by decide)),hS2.trans ?_⟩;symm;unfold n1B;all_goals exact lI)
   have hd:decide ((k:Int)<(@ln (ah 38) mI:Nat))=false:=decide_eq_false au
   have Nc:Z=n1F mM mC (m0,b0,q0):=hS.trans (iZ au)
   have zC:Z=lp (n2B mM mC) (n2F b0) (@ln (ah 0) mM) 0 m0:=Nc
   repeat' first|refine iF ?_|apply B_<;>intro h hc|apply I_;intro h
   all_goals refine iw ?_
   have hA0:@ln (ah 44) m0<=4096:=Nat.le_trans hA.1 au
   refine Or.inr (Or.inr ⟨[(3,133,44)],[3,67,77,78,79,80,81,82,83,84,85,86,87,88],[],[],[1,4,65,66,99,100],[2],?_⟩);conv=>whnf
   refine⟨fun(s:Unit×Int×Unit) (t:Li 44×Unit)=>∃ j:Nat,s.2.1=j/\j<=@ln (ah 0) mM/\APk t.1 b0 (4096+j)/\Z=lp (n2B mM mC) (n2F b0) (@ln (ah 0) mM-j) j t.1,fun(s:Unit×Int×Unit) _=>((@ln (ah 0) mM:Nat)-s.2.1).toNat,?_⟩
   conv=>whnf
   refine eZ.mk ⟨0,rfl,Nat.zero_le _,⟨hA0,Nat.le_trans hA.2.1 au,hA.2.2⟩,zC⟩ bA ?_
   rintro⟨_,(j:Int),_⟩ ⟨(m1:Li 44),_⟩ ⟨j,hj1,hj2,hB,hT⟩;replace hj1:_=(j:Int):=hj1;subst hj1;replace hj2:j<=@ln (ah 0) mM:=hj2;replace hB:APk m1 b0 (4096+j):=hB;replace hT:Z=lp (n2B mM mC) (n2F b0) (@ln (ah 0) mM-j) j m1:=hT;clear hK;refine gK fun K2 hK2=>?_
   by_cases hjl:j<@ln (ah 0) mM
   ·have hd2:decide ((j:Int)<(@ln (ah 0) mM:Nat))=true:=decide_eq_true au
    have WO:=hT.trans (cK hjl);have hB1:=hB.1;have hn:4096+j<=10000:=by omega
    have hin:∀ {q:Bool},(!tK mC (s0 mM j)||q)=false->0<=s0 mM j/\s0 mM j<=1099511627776:=fun h=>imIns_b hc0 hc1 (by
      have h2:=(Bool.or_eq_false_iff.1 h).1
      simpa using h2)
    have hp1:0<(j:Int)->0<=(j:Int)-1/\(j:Int)-1<(@ln (ah 0) mM:Nat):=fun h=>⟨au,au⟩
    repeat' first|(refine jU ?_;first|(apply aP;focus (exact ap_len (n:=4096+j) (by assumption) hn _))|refine bO bK trivial ?_)|apply B_<;>intro h hc|apply I_;intro h
    all_goals refine iw ?_
    all_goals first
     |(refine gB hg0 ?_;refine Eq.trans ?_ WO.symm;unfold n2B;all_goals exact lI)
     |(refine⟨j+1,rfl,hjl,hB.left (hin (by assumption)).1 (hin (by assumption)).2 (by decide),WO.trans ?_⟩;symm;unfold n2B;all_goals exact lI)
   have hd2:decide ((j:Int)<(@ln (ah 0) mM:Nat))=false:=decide_eq_false au
   have hT3:Z=n2F b0 m1:=hT.trans (iZ au)
   repeat' first|(refine jU ?_;first|(apply aP;focus (first|exact fun _=>hB.2.2.2|exact hB.2.2.1))|refine bO bK trivial ?_)|apply B_<;>intro h hc|apply I_;intro h
   all_goals refine iw ?_
   all_goals exact gB hg0 hT3.symm)
end Go.SX
