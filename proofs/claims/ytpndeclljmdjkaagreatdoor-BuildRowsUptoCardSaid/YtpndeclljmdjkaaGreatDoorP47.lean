/- A part of the proof (texts B84, BldF, B77, BldS, BldP, BldI). -/
import Derived.Test.YtpndeclljmdjkaaGreatDoorP08
import Derived.Test.YtpndeclljmdjkaaGreatDoorP10
import Derived.Test.YtpndeclljmdjkaaGreatDoorP12
import Derived.Test.YtpndeclljmdjkaaGreatDoorP23
import Derived.Test.YtpndeclljmdjkaaGreatDoorP24
import Derived.Test.YtpndeclljmdjkaaGreatDoorP30
import Derived.Test.YtpndeclljmdjkaaGreatDoorP31
import Derived.Test.YtpndeclljmdjkaaGreatDoorP32
import Derived.Test.YtpndeclljmdjkaaGreatDoorP34
import Derived.Test.YtpndeclljmdjkaaGreatDoorP35
import Derived.Test.YtpndeclljmdjkaaGreatDoorP36
import Derived.Test.YtpndeclljmdjkaaGreatDoorP37
import Derived.Test.YtpndeclljmdjkaaGreatDoorP38
import Derived.Test.YtpndeclljmdjkaaGreatDoorP39
import Derived.Test.YtpndeclljmdjkaaGreatDoorP41
import Derived.Test.YtpndeclljmdjkaaGreatDoorP43
import Derived.Test.YtpndeclljmdjkaaGreatDoorP44
import Derived.Test.YtpndeclljmdjkaaGreatDoorP45
import Derived.Test.YtpndeclljmdjkaaGreatDoorP46
set_option linter.all false
set_option maxRecDepth 100000
namespace Go.SX
open List renaming length -> ln
open Go.XK Go.RowKit
set_option maxHeartbeats 40000000
def sj {c:Nat} (key:ah c->Int) (l t:Li c):Prop:=List.Perm (α:=ah c) t l/\((@ln (ah c) l:Int)<20->t=Eb (rE c) key l 0 (@ln (ah c) l:Nat))
theorem aad {uName:ByteArray} {eO:Bool} {aj:Li 19} {ak:Li 21} {aJ:Li 23} {aT:Li 6} {aS:Li 6} {aY:Li 1} {aG:Int} {aU:Int} {aL:Int} {aF:Int} {aH:Li 27} {aD:Li 31} {ay:Li 0} {aB:Li 0} {aI:Li 35} {bJ:Int} {bD:Int} {aX:Int} {dX:Int} {mA:ByteArray} {mB:Bool} {mC:Int} {mD:Int} {mE:Int} {mF:ByteArray} {mG:ByteArray} {mH:Int} {mK:Li 21} {mL:Li 0} {mQ:Int} {mR:Li 1} {mS:Li 27} {mI:Li 38} {mJ:Li 40} {mM:Li 0} {mN:Li 42} {mO:Li 0} {mP:Li 0} {mT:Li 9} {mU:Li 11} {mV:Li 44} {mW:Li 13} {mX:Li 46} {mY:Li 17} {mZ:Li 49} {bs:Li 3} {tl:Li 3} {ok:Bool} (hMark:@ln (ah 9) mT<=1099511627776) (hLine:@ln (ah 11) mU<=1099511627776) (hSpan:@ln (ah 44) mV<=1099511627776) (TN:@ln (ah 13) mW<=1099511627776) (hVar:@ln (ah 46) mX<=1099511627776) (Lj:@ln (ah 17) mY<=1099511627776) (hDyn:@ln (ah 42) mN<=1099511627776):HC E0 20 16 [.loc 0 0] [(0,Ee uName eO aj ak aJ aT aS aY aG aU aL aF aH aD ay aB aI bJ bD aX dX mA mB mC mD mE mF mG mH 1 2 mK mL 3 4 5 6 mQ mR mS 7 8 9 10 11 12 13 14 15 ok),(1,.arr 75 none 38 mI),(2,.arr 137 none 40 mJ),(3,.arr 3 none 0 mM),(4,.arr 73 none 42 mN),(5,.arr 3 none 0 mO),(6,.arr 3 none 0 mP),(7,.arr 61 none 9 mT),(8,.arr 63 none 11 mU),(9,.arr 133 none 44 mV),(10,.arr 129 none 13 mW),(11,.arr 88 none 46 mX),(12,.arr 131 none 17 mY),(13,.arr 142 none 49 mZ),(14,.arr 5 none 3 bs),(15,.arr 5 none 3 tl)] (fun s H n=>s=.jm []/\(∃ (t0:Li 9) (t1:Li 11) (t2:Li 44) (t3:Li 13) (t4:Li 46) (t5:Li 17) (t6:Li 42),sj (c:=9) Zx mT t0/\sj (c:=11) Zy mU t1/\sj (c:=44) Zw mV t2/\sj (c:=13) Om mW t3/\sj (c:=46) kyVar mX t4/\sj (c:=17) Tv mY t5/\sj (c:=42) kyDyn mN t6/\H=[(0,Ee uName eO aj ak aJ aT aS aY aG aU aL aF aH aD ay aB aI bJ bD aX dX mA mB mC mD mE mF mG mH 1 2 mK mL 3 4 5 6 mQ mR mS 7 8 9 10 11 12 13 14 15 ok),(1,.arr 75 none 38 mI),(2,.arr 137 none 40 mJ),(3,.arr 3 none 0 (DX mM)),(4,.arr 73 none 42 t6),(5,.arr 3 none 0 mO),(6,.arr 3 none 0 mP),(7,.arr 61 none 9 t0),(8,.arr 63 none 11 t1),(9,.arr 133 none 44 t2),(10,.arr 129 none 13 t3),(11,.arr 88 none 46 t4),(12,.arr 131 none 17 t5),(13,.arr 142 none 49 mZ),(14,.arr 5 none 3 bs),(15,.arr 5 none 3 tl)])/\n=16):=by
 refine dG (DB:=[]) (IL:=[]) (WL:=[]) (fn:=Proofs.Tryz.f20) rfl rfl rfl rfl (by unfold dA;kernel_rfl) (fun hk=>?_)
 simp only [know]at hk
 repeat' first|(refine w_ ?_;first|refine bO bK trivial ?_|(refine Or.inl ⟨_,_,_,_,[7],Rx.nX _ _ hMark,rfl,rfl,rfl,rfl,rfl,(aK trivial),?_⟩;(rintro _ _ _ ⟨rfl,⟨t0,ht0,_,hx0,rfl⟩,rfl⟩;refine aK (aK ?_)))|(refine Or.inl ⟨_,_,_,_,[8],Ry.nX _ _ hLine,rfl,rfl,rfl,rfl,rfl,(aK trivial),?_⟩;(rintro _ _ _ ⟨rfl,⟨t1,ht1,_,hx1,rfl⟩,rfl⟩;refine aK (aK ?_)))|(refine Or.inl ⟨_,_,_,_,[9],Rw.nX _ _ hSpan,rfl,rfl,rfl,rfl,rfl,(aK trivial),?_⟩;(rintro _ _ _ ⟨rfl,⟨t2,ht2,_,hx2,rfl⟩,rfl⟩;refine aK (aK ?_)))|(refine Or.inl ⟨_,_,_,_,[10],IB.nX _ _ TN,rfl,rfl,rfl,rfl,rfl,(aK trivial),?_⟩;(rintro _ _ _ ⟨rfl,⟨t3,ht3,_,hx3,rfl⟩,rfl⟩;refine aK (aK ?_)))|(refine Or.inl ⟨_,_,_,_,[11],SoVar.nX _ _ hVar,rfl,rfl,rfl,rfl,rfl,(aK trivial),?_⟩;(rintro _ _ _ ⟨rfl,⟨t4,ht4,_,hx4,rfl⟩,rfl⟩;refine aK (aK ?_)))|(refine Or.inl ⟨_,_,_,_,[12],M4.nX _ _ Lj,rfl,rfl,rfl,rfl,rfl,(aK trivial),?_⟩;(rintro _ _ _ ⟨rfl,⟨t5,ht5,_,hx5,rfl⟩,rfl⟩;refine aK (aK ?_)))|(refine Or.inl ⟨_,_,_,_,[4],SoDyn.nX _ _ hDyn,rfl,rfl,rfl,rfl,rfl,(aK trivial),?_⟩;(rintro _ _ _ ⟨rfl,⟨t6,ht6,_,hx6,rfl⟩,rfl⟩;refine aK (aK ?_)))|(refine Or.inl ⟨_,_,_,_,[3],Bb _ _,rfl,rfl,rfl,rfl,rfl,(aK trivial),?_⟩;(rintro _ _ _ ⟨rfl,rfl,rfl⟩;refine aK (aK ?_))))|apply B_<;>intro h hc|apply I_;intro h
 all_goals conv=>whnf
 refine⟨[],[],_,_,[],⟨rfl,⟨t0,t1,t2,t3,t4,t5,t6,⟨ht0,hx0⟩,⟨ht1,hx1⟩,⟨ht2,hx2⟩,⟨ht3,hx3⟩,⟨ht4,hx4⟩,⟨ht5,hx5⟩,⟨ht6,hx6⟩,rfl⟩,rfl⟩,?_⟩
 conv=>whnf
 refine w_ ?_;repeat' (first|((with_reducible apply And.intro)<;>(first|(with_reducible refine iK ?_;apply rfl)|(with_reducible refine eY ?_;apply rfl)|(refine w_ ?_)))|(with_reducible apply trivial)|apply rfl|apply(Or.inl rfl)|apply(Or.inr rfl)|apply(Or.inr (Or.inl rfl))|apply trivial|(apply And.intro<;>(refine w_ ?_)))
abbrev nN (N:Li 19) (k:Nat):aM:=gt 19 N k
abbrev AX (n:aM):Nat:=@ln (ah 7) n.Refs
theorem G6 {σ:Type} {B:Nat->σ->(σ->Bool)->Bool} {F:σ->Bool} {Q:Nat->Prop} (h:∀ k s nx,B k s nx=true->Q k/\∃ s',nx s'=true) :
   ∀ (n k:Nat) (s:σ),lp B F n k s=true->(∀ j,k<=j->j<k+n->Q j)/\∃ s',F s'=true
 |0,k,s,hl=>⟨fun j h1 h2=>by omega,s,hl⟩
 |n+1,k,s,hl=>by
   obtain⟨h1,s',h2⟩:=h k s _ hl;obtain⟨h3,h4⟩:=G6 h n (k+1) s' h2;refine⟨fun j q1 q2=>?_,h4⟩
   rcases Nat.lt_or_ge k j with q|q
   ·exact h3 j q au
   ·have:j=k:=by omega
    subst this;exact h1
theorem bnf {a b:Bool} (h:(bif !a then false else b)=true):a=true/\b=true:=by
 cases a
 ·cases h
 ·exact⟨rfl,h⟩
theorem bft {a b:Bool} (h:(bif a then false else b)=true):a=false/\b=true:=by
 cases a
 ·exact⟨rfl,h⟩
 ·cases h
theorem Xg {uName:ByteArray} {aY:Li 1} {aH:Li 27} {N:Li 19} {I:Li 21} {O:Li 23} {b:Bool} {A B:Li 6} {e:bE} {C:Li 31} (h:lg uName aY aH N I O b A B e C=true) :
   uq N I=true/\vZ N I O=true/\Ak N I b A B e=true/\sQ N I C=true:=by
 unfold lg at h;obtain⟨_,h⟩:=bnf h;obtain⟨_,h⟩:=bnf h;obtain⟨h3,h⟩:=bnf h;obtain⟨_,h⟩:=bnf h;obtain⟨h5,h⟩:=bnf h;obtain⟨h6,h⟩:=bnf h;exact⟨h3,h5,h6,(bnf h).1⟩
section
variable {N:Li 19} {I:Li 21}
theorem Nq (h:uq N I=true) {k:Nat} (hk:k<@ln (ah 19) N) :
   DI (nN N k)=true/\(∀ j,j<AX (nN N k)->BO N I (gt 7 (nN N k).Refs j)=true)/\∀ j,j<@ln (ah 15) (nN N k).Vars->l8 N I (gt 15 (nN N k).Vars j)=true:=by
 unfold uq at h;simp only [Bool.not_eq_true',List.any_eq_false,List.mem_range,Bool.not_eq_true]at h;have h1:=h k hk;unfold nQ at h1;simp only [Bool.or_eq_false_iff,Bool.not_eq_false']at h1;obtain⟨⟨⟨h2,_⟩,h3⟩,h4⟩:=h1;refine⟨h2,fun j hj=>?_,fun j hj=>?_⟩
 ·have:=List.any_eq_false.1 h3 j (List.mem_range.2 hj);unfold qH at this;simp only [Bool.or_eq_true,Bool.not_eq_true',not_or,Bool.not_eq_false]at this;exact this.1
 ·have:=List.any_eq_false.1 h4 j (List.mem_range.2 hj);simpa using this
theorem Xh {r:gX} (h:BO N I r=true):BP N I r.To=true/\(r.To.Kind=2->K9 r.Kind=true):=by
 unfold BO at h;obtain⟨h1,h⟩:=bnf h;refine⟨h1,fun e=>?_⟩
 have h2:=(bft h).1;rw [decide_eq_true e]at h2;simpa using h2
theorem une_k {t:bE} (h:BP N I t=true):t.Kind=0\/t.Kind=1\/t.Kind=2:=by
 unfold BP at h
 by_cases h0:t.Kind=0
 ·exact .inl h0
 ·rw [decide_eq_false h0]at h
  by_cases h1:t.Kind=1
  ·exact .inr (.inl h1)
  ·rw [decide_eq_false h1]at h;simp only [cond_false,bs]at h;exact .inr (.inr h.1)
theorem R6 {t:bE} (h:nR N I t=true):t.Kind=0->0<=t.N/\t.N<(@ln (ah 19) N:Nat):=fun hk=>by
 unfold nR at h;have h1:=(bft h).1;simp only [Bool.or_eq_false_iff,Bool.not_eq_false']at h1;exact sD h1.2 hk
theorem unw_x {v:bQ} (h:l8 N I v=true) (hw:v.Where=2):v.Target.Kind=0->0<=v.Target.N/\v.Target.N<(@ln (ah 19) N:Nat):=fun hk=>by
 unfold l8 at h;rw [decide_eq_true hw]at h;simp only [Bool.not_true,cond_false,Bool.and_eq_true,Bool.or_eq_true,decide_eq_true_eq,hk]at h;rcases h.2 with h2|h2
 ·exact absurd h2.1 (by decide)
 ·exact sD h2.2 hk
theorem uno_p {O:Li 23} (h:vZ N I O=true) {k:Nat} (hk:k<@ln (ah 23) O):0<=(gt 23 O k:jd).Node/\(gt 23 O k:jd).Node<(@ln (ah 19) N:Nat):=by
 refine(G6 (Q:=fun k=>0<=(gt 23 O k:jd).Node/\(gt 23 O k:jd).Node<(@ln (ah 19) N:Nat)) (fun k s nx hb=>?_) _ 0 () h).1 k (Nat.zero_le _) au
 unfold Xr at hb;obtain⟨h1,h2⟩:=bft hb;refine⟨?_,?_⟩
 ·unfold Xq at h1;simp only [Bool.or_eq_false_iff,Bool.not_eq_false']at h1;exact sD h1.1.2 rfl
 ·cases hd:decide (0<(k:Int))with
  |true=>rw [hd]at h2;exact⟨(),(bft h2).2⟩
  |false=>rw [hd]at h2;exact⟨(),h2⟩
theorem unh_p {O:Li 31} (h:sQ N I O=true) {k:Nat} (hk:k<@ln (ah 31) O):(0<=(gt 31 O k:dZ).Node/\(gt 31 O k:dZ).Node<(@ln (ah 19) N:Nat))/\((gt 31 O k:dZ).Code.Kind=0->0<=(gt 31 O k:dZ).Code.N/\(gt 31 O k:dZ).Code.N<(@ln (ah 19) N:Nat)):=by
 refine(G6 (Q:=fun k=>(0<=(gt 31 O k:dZ).Node/\(gt 31 O k:dZ).Node<(@ln (ah 19) N:Nat))/\((gt 31 O k:dZ).Code.Kind=0->0<=(gt 31 O k:dZ).Code.N/\(gt 31 O k:dZ).Code.N<(@ln (ah 19) N:Nat))) (fun k s nx hb=>?_) _ 0 () h).1 k (Nat.zero_le _) au
 unfold Xw at hb;obtain⟨h1,h2⟩:=bft hb;obtain⟨_,h3⟩:=bnf h2;refine⟨?_,?_⟩
 ·simp only [Bool.or_eq_false_iff,Bool.and_eq_false_iff,Bool.not_eq_false',decide_eq_false_iff_not]at h1;refine⟨⟨au,by have:=h1.1.2;omega⟩,fun hk=>?_⟩
  rcases h1.2 with h4|h4
  ·simp only [Bool.and_eq_true,decide_eq_true_eq]at h4;omega
  ·exact R6 h4 hk
 ·cases hd:decide (0<(k:Int))with
  |true=>rw [hd]at h3;exact⟨(),(bft h3).2⟩
  |false=>rw [hd]at h3;exact⟨(),h3⟩
theorem unl_p {b:Bool} {A B:Li 6} {e:bE} (h:Ak N I b A B e=true) :
   (∀ k,k<@ln (ah 6) A->(gt 6 A k:bE).Kind=0->0<=(gt 6 A k:bE).N/\(gt 6 A k:bE).N<(@ln (ah 19) N:Nat)) /\
   (∀ k,k<@ln (ah 6) B->(gt 6 B k:bE).Kind=0->0<=(gt 6 B k:bE).N/\(gt 6 B k:bE).N<(@ln (ah 19) N:Nat)) /\
   (e.Kind=0->0<=e.N/\e.N<(@ln (ah 19) N:Nat)):=by
 unfold Ak at h;obtain⟨h1,h2⟩:=bft h;simp only [Bool.or_eq_false_iff]at h1;refine⟨fun k hk=>?_,fun k hk=>?_,?_⟩
 ·have:=List.any_eq_false.1 h1.1 k (List.mem_range.2 hk);exact R6 (by simpa using this)
 ·have:=List.any_eq_false.1 h1.2 k (List.mem_range.2 hk);exact R6 (by simpa using this)
 ·cases b with
  |true =>
    simp only [cond_true,Bool.and_eq_true,decide_eq_true_eq]at h2;intro hk;omega
  |false=>exact R6 h2
end
theorem smp_le {n:aM} (h:DI n=true):(n.Bytes.size:Int)<=n.Size:=by
 have h1:=smp_s h;simp only [JK,bs]at h1;obtain⟨⟨⟨⟨⟨_,_⟩,_⟩,h4⟩,h5⟩,_⟩:=h1;split at h5<;>omega
theorem Sz {c:IQ} {a z al lo hi:Int} {nx:IQ->Bool} (h:vC c a z al lo hi nx=true) (hn:∀ x,nx x=true->x.2=true):c.2=true/\lo<=a/\a<=IntKind.i64.wrap (hi-z)/\∃ x,nx x=true:=by
 unfold vC at h
 cases hp:NP c a z al lo hi with
 |false =>
   rw [hp]at h;cases hn _ h
 |true =>
   rw [hp]at h;unfold NP at hp;simp only [Bool.and_eq_true,decide_eq_true_eq]at hp;exact⟨hp.1.1.1.1,hp.1.1.1.2,hp.1.1.2,_,h⟩
theorem Yx {T:Li 35} {lc:Int} {t:Bool}:∀ (n k:Nat) (s:IQ),lp (Yy T lc) (plTF t) n k s=true->s.2=true/\t=true/\∀ j,k<=j->j<k+n->0<=(gt 35 T j:fA).At/\(gt 35 T j:fA).At<=IntKind.i64.wrap (lc-8)
 |0,k,s,h=>by
   have h:(s.2&&t)=true:=h;rw [Bool.and_eq_true]at h;exact⟨h.1,h.2,fun j h1 h2=>by omega⟩
 |n+1,k,s,h=>by
   obtain⟨h1,h2,h3,x,h4⟩:=Sz (c:=s) (nx:=lp (Yy T lc) (plTF t) n (k+1)) h fun x hx=>(Yx n (k+1) x hx).1
   obtain⟨_,h5,h6⟩:=Yx n (k+1) x h4;refine⟨h1,h5,fun j q1 q2=>?_⟩
   rcases Nat.lt_or_ge k j with q|q
   ·exact h6 j q au
   ·have:j=k:=by omega
    subst this;exact⟨h2,h3⟩
theorem SA {nd S:Li 0} {T:Li 35} {lc ld:Int} {t:Bool}:∀ (n k:Nat) (s:IQ),lp (Qp nd S lc ld) (Qo T lc t) n k s=true->s.2=true/\t=true/\∀ j,j<@ln (ah 35) T->0<=(gt 35 T j:fA).At/\(gt 35 T j:fA).At<=IntKind.i64.wrap (lc-8)
 |0,k,s,h=>by
   obtain⟨h1,h2,h3⟩:=Yx _ 0 s h;exact⟨h1,h2,fun j hj=>h3 j (Nat.zero_le _) au⟩
 |n+1,k,s,h=>by
   have h:(bif !decide (0<=Ho nd (k:Int))then lp (Qp nd S lc ld) (Qo T lc t) n (k+1) (s.1,s.2&&decide (gI S k = -1))else vC s (gI S k) 8 8 lc ld (lp (Qp nd S lc ld) (Qo T lc t) n (k+1)))=true:=h
   cases hb:!decide (0<=Ho nd (k:Int))with
   |true =>
     rw [hb]at h;obtain⟨h1,h2⟩:=SA n (k+1) _ h;have h1:(s.2&&decide (gI S k = -1))=true:=h1;rw [Bool.and_eq_true]at h1;exact⟨h1.1,h2⟩
   |false =>
     rw [hb]at h;obtain⟨h1,h2,h3,x,h4⟩:=Sz (nx:=lp (Qp nd S lc ld) (Qo T lc t) n (k+1)) h fun x hx=>(SA n (k+1) x hx).1
     exact⟨h1,(SA n (k+1) x h4).2⟩
def PlAt (N:Li 19) (L:Li 0) (lc ld lz lt:Int) (k:Nat):Prop:=(oz (nN N k).Kind=true->0<=gI L k/\gI L k<=IntKind.i64.wrap (lt-(nN N k).Size)) /\
 (oz (nN N k).Kind=false->wK lc ld lz (kK (nN N k).Kind)<=gI L k/\gI L k<=IntKind.i64.wrap (wK lc ld lz (kK (nN N k).Kind+1)-(nN N k).Size))
theorem pln_p {N:Li 19} {nd L S:Li 0} {T:Li 35} {lc ld lz lt:Int}:∀ (n k:Nat) (s:IQ×IQ),lp (Qr N L lc ld lz lt) (Qq nd S T lc ld) n k s=true->s.1.2=true/\s.2.2=true/\(∀ j,k<=j->j<k+n->PlAt N L lc ld lz lt j)/\∀ j,j<@ln (ah 35) T->0<=(gt 35 T j:fA).At/\(gt 35 T j:fA).At<=IntKind.i64.wrap (lc-8)
 |0,k,s,h=>by
   obtain⟨h1,h2,h3⟩:=SA _ 0 s.1 h;exact⟨h1,h2,fun j q1 q2=>by omega,h3⟩
 |n+1,k,s,h=>by
   have ih:=pln_p (N:=N) (nd:=nd) (L:=L) (S:=S) (T:=T) (lc:=lc) (ld:=ld) (lz:=lz) (lt:=lt) n (k+1)
   have h:(bif oz (nN N k).Kind then vC s.2 (gI L k) (nN N k).Size (nN N k).Align 0 lt fun t=>lp (Qr N L lc ld lz lt) (Qq nd S T lc ld) n (k+1) (s.1,t)
     else vC s.1 (gI L k) (nN N k).Size (nN N k).Align (wK lc ld lz (kK (nN N k).Kind)) (wK lc ld lz (kK (nN N k).Kind+1)) fun m=>lp (Qr N L lc ld lz lt) (Qq nd S T lc ld) n (k+1) (m,s.2))=true:=h
   have fin:∀ s':IQ×IQ,lp (Qr N L lc ld lz lt) (Qq nd S T lc ld) n (k+1) s'=true->PlAt N L lc ld lz lt k->(∀ j,k<=j->j<k+(n+1)->PlAt N L lc ld lz lt j)/\∀ j,j<@ln (ah 35) T->0<=(gt 35 T j:fA).At/\(gt 35 T j:fA).At<=IntKind.i64.wrap (lc-8):=fun s' hs hp=>by
     obtain⟨_,_,h1,h2⟩:=ih s' hs;refine⟨fun j q1 q2=>?_,h2⟩
     rcases Nat.lt_or_ge k j with q|q
     ·exact h1 j q au
     ·have:j=k:=by omega
      subst this;exact hp
   cases hb:oz (nN N k).Kind with
   |true =>
     rw [hb,cond_true]at h;obtain⟨h1,h2,h3,x,h4⟩:=Sz h fun x hx=>(ih (s.1,x) hx).2.1
     exact⟨(ih _ h4).1,h1,fin _ h4 ⟨fun _=>⟨h2,h3⟩,fun q=>by rw [hb]at q;cases q⟩⟩
   |false =>
     rw [hb,cond_false]at h;obtain⟨h1,h2,h3,x,h4⟩:=Sz h fun x hx=>(ih (x,s.2) hx).1
     exact⟨h1,(ih _ h4).2.1,fin _ h4 ⟨fun q=>by(rw [hb]at q;cases q),fun _=>⟨h2,h3⟩⟩⟩
theorem plr_p {N:Li 19} {I:Nat} {L S:Li 0} {T:Li 35} {lc ld lz lt:Int} (h:jV N I L S T lc ld lz lt=true) :
   (@ln (ah 0) L=@ln (ah 19) N/\@ln (ah 0) S=I)/\(0<=lc/\lc<=ld/\ld<=lz/\lz<=1048576/\0<=lt/\lt<=1048576)/\(∀ k,k<@ln (ah 19) N->PlAt N L lc ld lz lt k)/\∀ j,j<@ln (ah 35) T->0<=(gt 35 T j:fA).At/\(gt 35 T j:fA).At+8<=lc:=by
 have hl:=JH h;unfold jV at h;obtain⟨h1,h2⟩:=bnf h;unfold yh at h1;simp only [Bool.and_eq_true,decide_eq_true_eq]at h1;obtain⟨⟨⟨⟨⟨_,⟨⟨q1,q2⟩,q3⟩,q4⟩,q5⟩,q6⟩,_⟩,_⟩:=h1;obtain⟨_,_,h3,h4⟩:=pln_p _ 0 _ h2;refine⟨hl,⟨q1,q2,q3,q4,q5,q6⟩,fun k hk=>h3 k (Nat.zero_le _) au,fun j hj=>?_⟩
 obtain⟨h5,h6⟩:=h4 j hj;rw [IntKind.wrap_i64]at h6;omega
theorem LA {c:bW} {l:Li 35}:∀ (n k:Nat),0<=lp (uF c l) zw n k ()->lp (uF c l) zw n k ()<((k+n:Nat):Int)
 |0,k,h=>absurd (show(0:Int)<=-1 from h) (by decide)
 |n+1,k,h=>by
   have e:lp (uF c l) zw (n+1) k ()=bif Nw c (gt 35 l k)then(k:Int)else lp (uF c l) zw n (k+1) ():=rfl;rw [e]at h ⊢
   cases hb:Nw c (gt 35 l k)with
   |true=>show(k:Int)<_;omega
   |false =>
     rw [hb]at h;have:=LA n (k+1) h;show lp (uF c l) zw n (k+1) ()<_;omega
section
variable {N:Li 19} {L:Li 0}
theorem MS {i:Nat} {R:Li 7} {x:ah 58}:∀ (n k:Nat) (o:Li 58),x∈lp (Ap L i R) vo n k o↔x∈o\/∃ j,k<=j/\j<k+n/\(gt 7 R j:gX).Kind=6/\x=pz L i (gt 7 R j)
 |0,k,o=>⟨.inl,fun h=>h.elim id fun⟨j,h1,h2,_⟩=>by omega⟩
 |n+1,k,o=>by
   have e:lp (Ap L i R) vo (n+1) k o=bif decide ((gt 7 R k:gX).Kind=6)then lp (Ap L i R) vo n (k+1) (o++[pz L i (gt 7 R k)])else lp (Ap L i R) vo n (k+1) o:=rfl;rw [e]
   by_cases h6:(gt 7 R k:gX).Kind=6
   ·rw [decide_eq_true h6];show x∈lp (Ap L i R) vo n (k+1) _↔_;rw [MS n (k+1),List.mem_append,List.mem_singleton];constructor
    ·rintro((h|h)|⟨j,h1,h2,h3⟩)
     ·exact .inl h
     ·exact .inr ⟨k,Nat.le_refl _,au,h6,h⟩
     ·exact .inr ⟨j,au,au,h3⟩
    ·rintro(h|⟨j,h1,h2,h3,h4⟩)
     ·exact .inl (.inl h)
     ·rcases Nat.lt_or_ge k j with q|q
      ·exact .inr ⟨j,q,au,h3,h4⟩
      ·have:j=k:=by omega
       subst this;exact .inl (.inr h4)
   ·rw [decide_eq_false h6];show x∈lp (Ap L i R) vo n (k+1) _↔_;rw [MS n (k+1)];constructor
    ·rintro(h|⟨j,h1,h2,h3⟩)
     ·exact .inl h
     ·exact .inr ⟨j,au,au,h3⟩
    ·rintro(h|⟨j,h1,h2,h3,h4⟩)
     ·exact .inl h
     ·rcases Nat.lt_or_ge k j with q|q
      ·exact .inr ⟨j,q,au,h3,h4⟩
      ·have:j=k:=by omega
       subst this;exact absurd h3 h6
theorem Uk {x:ah 58}:∀ (n k:Nat) (o:Li 58),x∈lp (Ny N L) vo n k o↔x∈o\/∃ i j,k<=i/\i<k+n/\j<AX (nN N i)/\(gt 7 (nN N i).Refs j:gX).Kind=6/\x=pz L i (gt 7 (nN N i).Refs j)
 |0,k,o=>⟨.inl,fun h=>h.elim id fun⟨i,j,h1,h2,_⟩=>by omega⟩
 |n+1,k,o=>by
   show x∈lp (Ny N L) vo n (k+1) (XO L k (nN N k).Refs o)↔_;refine(Uk n (k+1) _).trans ((or_congr (MS (L:=L) (i:=k) (R:=(nN N k).Refs) (x:=x) (AX (nN N k)) 0 o) Iff.rfl).trans ?_);constructor
   ·rintro((h|⟨j,h1,h2,h3⟩)|⟨i,j,h1,h2,h3⟩)
    ·exact .inl h
    ·exact .inr ⟨k,j,Nat.le_refl _,au,au,h3⟩
    ·exact .inr ⟨i,j,au,au,h3⟩
   ·rintro(h|⟨i,j,h1,h2,h3,h4⟩)
    ·exact .inl (.inl h)
    ·rcases Nat.lt_or_ge k i with q|q
     ·exact .inr ⟨i,j,q,au,h3,h4⟩
     ·have:i=k:=by omega
      subst this;exact .inl (.inr ⟨j,Nat.zero_le _,au,h4⟩)
theorem Ku {x:ah 58}:x∈fu N L↔∃ i j,i<@ln (ah 19) N/\j<AX (nN N i)/\(gt 7 (nN N i).Refs j:gX).Kind=6/\x=pz L i (gt 7 (nN N i).Refs j):=by
 unfold fu;rw [Uk];constructor
 ·rintro(h|⟨i,j,h1,h2,h3⟩)
  ·cases h
  ·exact⟨i,j,au,h3⟩
 ·rintro⟨i,j,h1,h2⟩;exact .inr ⟨i,j,Nat.zero_le _,au,h2⟩
theorem str_p {I:Nat} {S:Li 0} {T:Li 35} {lc ld lz lt:Int} (h:mg N I L S T lc ld lz lt=true) :
   jV N I L S T lc ld lz lt=true/\(∀ k,k<@ln (ah 35) T->XM N.length I (gt 35 T k)=true)/\∀ x∈fu N L,uE L x=true->0<=mh x T:=by
 unfold mg at h;obtain⟨h1,h2⟩:=bnf h
 obtain⟨h3,s',h4⟩:=G6 (Q:=fun k=>XM N.length I (gt 35 T k)=true) (fun k s nx hb=>by
   obtain⟨q1,q2⟩:=bft hb;refine⟨?_,(),q2⟩;unfold XM;rw [Bool.and_eq_false_iff]at q1;rw [Bool.or_eq_true];rcases q1 with q1|q1
   ·exact .inl (by rw [Bool.not_eq_false']at q1;exact q1)
   ·exact .inr (by rw [Bool.not_eq_false']at q1;exact q1)) _ 0 () h2
 refine⟨h1,fun k hk=>h3 k (Nat.zero_le _) au,fun x hx hn=>?_⟩
 obtain⟨k,hk,rfl⟩:=List.getElem_of_mem hx
 have h5:=(G6 (Q:=fun k=>uE L (gt 58 (fu N L) k)=true->0<=mh (gt 58 (fu N L) k) T) (fun k s nx hb=>by
   unfold XP at hb;obtain⟨_,hb⟩:=bft hb
   cases hq:uE L (gt 58 (fu N L) k)with
   |false=>rw [hq]at hb;exact⟨fun q=>by(first|cases q|(rw [hq]at q;cases q)),_,hb⟩
   |true =>
     rw [hq]at hb;obtain⟨q1,q2⟩:=bft (show(bif decide (mh (gt 58 (fu N L) k) T<0)then false else _)=true from hb)
     exact⟨fun _=>by have:=of_decide_eq_false q1;omega,_,q2⟩) _ 0 _ h4).1 k (Nat.zero_le _) au
 have e:gt 58 (fu N L) k=(fu N L)[k]:=by
   show(fu N L).getD k _=_;rw [List.getD_eq_getElem?_getD,List.getElem?_eq_getElem hk];rfl
 rw [e]at h5;exact h5 hn
end
theorem Sv {N:Li 19} (h:∀ k,k<@ln (ah 19) N->AX (nN N k)<=1048576):∀ (n k:Nat),@ln (ah 19) N-k=n->wF N k<=n*1048576
 |0,k,e=>by
   unfold wF;rw [List.drop_eq_nil_of_le (Nat.le_of_sub_eq_zero e)];exact Nat.zero_le _
 |n+1,k,e=>by
   have hk:k<@ln (ah 19) N:=by omega
   rw [Ya hk];have:=Sv h n (k+1) au
   have:(gt 19 N k:aM).Refs.length<=1048576:=h k hk;omega
def Hg (m:jr):Bool:=lp (oW (fun k=>zR m.Zero m.Info.Marks k (gt 9 m.Info.Marks k))) oV m.Info.Marks.length 0 ()&&lp (oW (fun k=>zS m.Code m.Info.Lines k (gt 11 m.Info.Lines k))) oV m.Info.Lines.length 0 ()&&QW m.Code m.Info.Ends&&(pJ m.Code (fun k=>((gt 13 m.Info.dK k).gD,(gt 13 m.Info.dK k).From,(gt 13 m.Info.dK k).To)) m.Info.dK.length&&lp (oW (fun k=>J4 (gt 13 m.Info.dK k))) oV m.Info.dK.length 0 ())&&(pJ m.Code (fun k=>((gt 46 m.Info.Vars k).gD,(gt 46 m.Info.Vars k).From,(gt 46 m.Info.Vars k).To)) m.Info.Vars.length&&lp (oW (fun k=>Hf m.Zero (gt 46 m.Info.Vars k))) oV m.Info.Vars.length 0 ())&&(pJ m.Code (fun k=>((gt 17 m.Info.gy k).gD,(gt 17 m.Info.gy k).From,(gt 17 m.Info.gy k).To)) m.Info.gy.length&&lp (oW (fun k=>J5 (gt 17 m.Info.gy k))) oV m.Info.gy.length 0 ())
def ni (m:jr):Bool:=Ey m.Code m.Data m.Zero m.Bytes m.Tls m.Block m.Name&&Mx m.Code m.Data m.Zero m.Block m.Nodes m.kY&&C9 m.Exports m.Zero m.Block&&tQ m.Imports m.Slots m.Code m.Data&&QX m.Dyns m.Slots m.Data m.Imports.length&&Ox m.lZ m.oQ m.Entry m.Code m.Lib&&MC m.Name m.Needs m.fJ&&Hg m&&J6 m.Code m.Changes
structure ImOk (m:jr):Prop where
 name:Ai m.Name
 nodes:PlOk m.Nodes
 exps:∀ k,k<@ln (ah 40) m.Exports->Ai (exA m.Exports k).Name/\Ai (exA m.Exports k).Version
 imps:∀ k,k<@ln (ah 21) m.Imports->Ai (ZT m.Imports k).Name/\Ai (ZT m.Imports k).Version
 vers:vOk m.fJ
 needs:∀ k,k<@ln (ah 1) m.Needs->Ai (gt 1 m.Needs k)
 chg:CvOk m.Changes
theorem VL {c d z k:Int} {b t nm:ByteArray} (h:Ey c d z b t k nm=true):0<=c/\c<=1048576:=by
 unfold Ey at h;simp only [Bool.and_eq_true,decide_eq_true_iff]at h;obtain⟨⟨⟨⟨⟨⟨⟨_,h1⟩,h2⟩,h3⟩,h4⟩,_⟩,_⟩,_⟩:=h;exact⟨h1,au⟩
theorem Jf {l:Li 21} {S:Li 0} {c d:Int} (h:tQ l S c d=true):S.length=l.length:=by
 unfold tQ at h
 cases hc:decide ((4096:Int)<(@ln (ah 21) l:Nat)) || !decide ((@ln (ah 0) S:Int)=(@ln (ah 21) l:Nat))with
 |true=>rw [hc]at h;cases h
 |false =>
   have h2:=(Bool.or_eq_false_iff.1 hc).2;have h3:(@ln (ah 0) S:Int)=(@ln (ah 21) l:Nat):=by simpa using h2
   exact Int.ofNat.inj h3
noncomputable def F_Ac:Fact E0:=bM 11 Proofs.Tryz.f11 rfl rfl rfl [.g dD] (fun mA mB mC mD mE mF mG mH mI mJ mK mL mM mN mO mP mQ mR mS mT mU mV mW mX mY mZ=>.ob (ImOk (⟨mA,mB,mC,mD,mE,mF,mG,mH,mI,mJ,mK,mL,mM,mN,mO,mP,mQ,mR,mS,⟨mT,mU,mV,mW,mX,mY⟩,mZ⟩:jr)) (.b (ni (⟨mA,mB,mC,mD,mE,mF,mG,mH,mI,mJ,mK,mL,mM,mN,mO,mP,mQ,mR,mS,⟨mT,mU,mV,mW,mX,mY⟩,mZ⟩:jr)))) [F_BR,F_BL,F_Au,F_Av,F_At,F_BS,F_BJ,F_Aw,F_Aq] [] (by
   repeat intro _
   refine fD rfl rfl fun hb hk=>?_
   have h1:=hb.name;have h2:=hb.nodes;have h3:=hb.exps;have h4:=hb.imps;have h5:=hb.vers;have h6:=hb.needs;have h7:=hb.chg
   repeat' first|(refine w_ ?_;first|(apply aP;focus (first|exact fun hq=>⟨h2,VL hq⟩|exact fun _=>h3|exact fun _=>h4|exact fun hq=>Jf (Bool.and_eq_true_iff.1 hq).2|exact fun _=>⟨h5,h6⟩|exact fun _=>h7|exact h1))|refine bO bK trivial ?_)|apply B_<;>intro h hc|apply I_;intro h
   all_goals conv=>whnf
   all_goals first|exact rfl)
structure BS where
 nodes:Li 38
 dyns:Li 42
 Dk:Li 3
 tl:Li 3
 ok:Bool
 marks:Li 9
 lines:Li 11
 inls:Li 13
 vars:Li 46
 deps:Li 17
 ends:Li 44
section
variable (N:Li 19) (I:Li 21) (lN lS:Li 0) (T:Li 35) (lz:Int)
def Uq (k:Nat) (s:BS):BS :=
 ⟨@HAppend.hAppend (List fB) (List fB) (List fB) _ s.nodes [(⟨(nN N k).Obj,(nN N k).gD,(nN N k).Kind,nJ lN k,(nN N k).Size,sS N I k,BQ N k⟩:fB)],(ndW N lN lS T k s.dyns).2.1,
   (bif (ndW N lN lS T k s.dyns).2.2 then NZ (nN N k).Kind (nJ lN k) (ndW N lN lS T k s.dyns).1 s.Dk else s.Dk),(bif (ndW N lN lS T k s.dyns).2.2 then NY (nN N k).Kind (nJ lN k) (nN N k).Size (ndW N lN lS T k s.dyns).1 s.tl else s.tl),
   (ndW N lN lS T k s.dyns).2.2&&s.ok,uZ (nN N k).Marks (nN N k).Size (nJ lN k) s.marks,rX (nN N k).Lines (nJ lN k) s.lines,nZ (nN N k).dK (nJ lN k) s.inls,
   kH (nN N k).Vars lN lz (nJ lN k) s.vars,rD (nN N k).gy (nJ lN k) s.deps,Dm (nN N k).Kind (nN N k).Size (nJ lN k) s.ends⟩
def bF (b0:Li 3):Nat->BS
 |0=>⟨[],[],b0,[],true,[],[],[],[],[],[]⟩
 |k+1=>Uq N I lN lS T lz k (bF b0 k)
structure BU where
 Jz:Li 0
 Dk:Li 3
 ok:Bool
def bU (b0:Li 3) (o:Bool):Nat->BU
 |0=>⟨[],b0,o⟩
 |k+1=>⟨@HAppend.hAppend (List Int) (List Int) (List Int) _ (bU b0 o k).Jz [(gt 35 T k:fA).At],Lf (bU b0 o k).Dk (gt 35 T k:fA).At (pI (qJ lS lN (gt 35 T k))),(bU b0 o k).ok&&wU (qJ lS lN (gt 35 T k))⟩
end
theorem uP {c:Nat} {B:Nat->Li c->(Li c->Li c)->Li c} (h:∀ k s nx,∃ s',B k s nx=nx s'/\@ln (ah c) s'<=@ln (ah c) s+1) :
   ∀ (n k:Nat) (s:Li c),@ln (ah c) (lp B rC n k s)<=@ln (ah c) s+n
 |0,_,_=>Nat.le_refl _
 |n+1,k,s=>by
   obtain⟨s',h1,h2⟩:=h k s (lp B rC n (k+1));show @ln (ah c) (B k s (lp B rC n (k+1)))<=_;rw [h1];have:=uP h n (k+1) s';omega
theorem app1 {c:Nat} (s:Li c) (x:ah c):@ln (ah c) (@HAppend.hAppend (Li c) (Li c) (Li c) _ s [x])<=@ln (ah c) s+1:=Nat.le_of_eq (@List.length_append (ah c) s [x])
theorem bi1 {M:Li 9} {z a:Int} (s:Li 9):@ln (ah 9) (uZ M z a s)<=@ln (ah 9) s+@ln (ah 9) M:=by
 refine uP (fun k s nx=>?_) _ 0 s
 unfold qm
 cases decide ((gt 9 M k:eU).At<z)with
 |true=>exact⟨_,rfl,app1 (c:=9) s _⟩
 |false=>exact⟨_,rfl,Nat.le_succ _⟩
theorem bi2 {M:Li 11} {a:Int} (s:Li 11):@ln (ah 11) (rX M a s)<=@ln (ah 11) s+@ln (ah 11) M :=
 uP (fun k s nx=>⟨_,rfl,app1 (c:=11) s _⟩) _ 0 s
theorem bi3 {M:Li 13} {a:Int} (s:Li 13):@ln (ah 13) (nZ M a s)<=@ln (ah 13) s+@ln (ah 13) M :=
 uP (fun k s nx=>⟨_,rfl,app1 (c:=13) s _⟩) _ 0 s
theorem bi4 {M:Li 15} {lN:Li 0} {z a:Int} (s:Li 46):@ln (ah 46) (kH M lN z a s)<=@ln (ah 46) s+@ln (ah 15) M :=
 uP (c:=46) (fun k s nx=>⟨_,rfl,app1 (c:=46) s _⟩) _ 0 s
theorem bi5 {M:Li 17} {a:Int} (s:Li 17):@ln (ah 17) (rD M a s)<=@ln (ah 17) s+@ln (ah 17) M :=
 uP (fun k s nx=>⟨_,rfl,app1 (c:=17) s _⟩) _ 0 s
theorem bi6 {k z a:Int} (s:Li 44):@ln (ah 44) (Dm k z a s)<=@ln (ah 44) s+1:=by
 unfold Dm
 cases decide (k=0)&&decide (0<z)with
 |true=>exact app1 (c:=44) s _
 |false=>exact Nat.le_succ _
theorem bh5 {M:Li 0} (s:Li 42):@ln (ah 42) (D6 M s)<=@ln (ah 42) s+@ln (ah 0) M:=by
 refine uP (c:=42) (fun k s nx=>?_) _ 0 s
 unfold O3
 cases decide (0<=nJ M k)with
 |true=>exact⟨_,rfl,app1 (c:=42) s _⟩
 |false=>exact⟨_,rfl,Nat.le_succ _⟩
section
variable {N:Li 19} {I:Li 21} {lN lS:Li 0} {T:Li 35} {lz:Int}
theorem YU {i:Int}:∀ (n k:Nat) (s:ByteArray×List lM),@ln (ah 42) (lp (zL N lN lS T i) Md n k s).2.1<=@ln (ah 42) s.2+n/\((lp (zL N lN lS T i) Md n k s).2.2=true->(lp (zL N lN lS T i) Md n k s).1.size=s.1.size)
 |0,_,_=>⟨Nat.le_refl _,fun _=>rfl⟩
 |n+1,k,s=>by
   have e:lp (zL N lN lS T i) Md (n+1) k s=zL N lN lS T i k s (lp (zL N lN lS T i) Md n (k+1)):=rfl;rw [e];unfold zL
   cases !F9 (Cv N i k).Kind (Cv N i k).To.Kind with
   |true =>
     obtain⟨h1,h2⟩:=YU n (k+1) (s.1,@HAppend.hAppend (List lM) (List lM) (List lM) _ s.2 [Wm lN lS i (Cv N i k)]);have:=app1 (c:=42) s.2 (Wm lN lS i (Cv N i k));refine⟨Nat.le_trans h1 ?_,h2⟩;show @ln (ah 42) (@HAppend.hAppend (Li 42) (Li 42) (Li 42) _ s.2 [Wm lN lS i (Cv N i k)])+n<=_;omega
   |false =>
     cases hq:(mq s.1 (Cv N i k).At (Cv N i k).Kind (Wj N lN lS T i k)).2 with
     |false=>exact⟨Nat.le_add_right _ _,fun q=>by cases q⟩
     |true =>
       obtain⟨h1,h2⟩:=YU n (k+1) ((mq s.1 (Cv N i k).At (Cv N i k).Kind (Wj N lN lS T i k)).1,s.2);exact⟨Nat.le_trans h1 (by show @ln (ah 42) s.2+n<=_;omega),fun q=>(h2 q).trans (Ay hq)⟩
theorem Y0 {k a:Int} {s:ByteArray} {b:Li 3} (h:k=0\/k=1->a.toNat<=b.length):(NZ k a s b).length=b.length:=by
 unfold NZ
 cases hq:decide (k=0)||decide (k=1)with
 |true =>
   simp only [Bool.or_eq_true,decide_eq_true_eq]at hq;exact Bo (h hq) (Nat.le_refl _)
 |false=>rfl
theorem YZ {k a z:Int} {s:ByteArray} {t:Li 3} (ha:k=3->0<=a/\0<=z/\a+z<=1099511627776) (ht:@ln (ah 3) t<=1099511627776):@ln (ah 3) (NY k a z s t)<=1099511627776:=by
 unfold NY
 cases hq:decide (k=3)with
 |false=>exact ht
 |true =>
   obtain⟨h1,h2,h3⟩:=ha (of_decide_eq_true hq)
   have hx:@ln (ah 3) (Me (a+z) t)<=1099511627776/\a.toNat<=@ln (ah 3) (Me (a+z) t):=by
     by_cases hl:((@ln (ah 3) t:Nat):Int)<a+z
     ·rw [YV hl];have:=RH hl;omega
     ·rw [YW hl];omega
   exact Nat.le_trans (Nat.le_of_eq (Bo hx.2 (Nat.le_refl _))) hx.1
structure BInv (n k:Nat) (s:BS):Prop where
 nodes:@ln (ah 38) s.nodes<=k
 dyns:@ln (ah 42) s.dyns<=k*1048576
 Dk:@ln (ah 3) s.Dk=n
 tl:@ln (ah 3) s.tl<=1099511627776
 marks:@ln (ah 9) s.marks<=k*1048576
 lines:@ln (ah 11) s.lines<=k*1048576
 inls:@ln (ah 13) s.inls<=k*1048576
 vars:@ln (ah 46) s.vars<=k*1048576
 deps:@ln (ah 17) s.deps<=k*1048576
 ends:@ln (ah 44) s.ends<=k*1048576
theorem Rp {b0:Li 3} (hO:∀ k:Nat,k<@ln (ah 19) N->NdOk N lN lS T (@ln (ah 3) b0) k) (hP:∀ k:Nat,k<@ln (ah 19) N->ndP N I (nN N k)):∀ k:Nat,k<=@ln (ah 19) N->BInv (@ln (ah 3) b0) k (bF N I lN lS T lz b0 k)
 |0,_=>⟨Nat.le_refl _,Nat.zero_le _,rfl,Nat.zero_le _,Nat.zero_le _,Nat.zero_le _,Nat.zero_le _,Nat.zero_le _,Nat.zero_le _,Nat.zero_le _⟩
 |k+1,hk=>by
   obtain⟨i1,i2,i3,i4,i5,i6,i7,i8,i9,i10⟩:=Rp hO hP k au
   have ho:=hO k au
   have hp:=hP k au
   show BInv _ (k+1) (Uq N I lN lS T lz k (bF N I lN lS T lz b0 k));generalize bF N I lN lS T lz b0 k=s at i1 i2 i3 i4 i5 i6 i7 i8 i9 i10;have hw:=YU (N:=N) (lN:=lN) (lS:=lS) (T:=T) (i:=(k:Int)) (AX (nN N k)) 0 ((nN N k).Bytes,s.dyns);have hn:AX (nN N k)<=1048576:=ho.nr;unfold Uq;refine⟨?_,?_,?_,?_,?_,?_,?_,?_,?_,?_⟩
   ·have:=app1 (c:=38) s.nodes ⟨(nN N k).Obj,(nN N k).gD,(nN N k).Kind,nJ lN k,(nN N k).Size,sS N I k,BQ N k⟩;exact Nat.le_trans this au
   ·exact Nat.le_trans hw.1 (by show @ln (ah 42) s.dyns+_<=_;omega)
   ·cases(ndW N lN lS T k s.dyns).2.2 with
    |false=>exact i3
    |true =>
      refine(Y0 fun hq=>?_).trans i3
      have:=ho.Dk hq;have:nJ lN (k:Int).toNat=nJ lN k:=rfl;have h3:s.Dk.length=@ln (ah 3) b0:=i3;omega
   ·cases(ndW N lN lS T k s.dyns).2.2 with
    |false=>exact i4
    |true =>
      refine YZ (fun hq=>?_) i4
      have:=ho.tl hq;have e:nJ lN (k:Int).toNat=nJ lN k:=rfl;have e2:(gt 19 N (k:Int).toNat:aM).Size=(nN N k).Size:=rfl;omega
   ·exact Nat.le_trans (bi1 _) (by have:=hp.marks.1;omega)
   ·exact Nat.le_trans (bi2 _) (by have:=hp.lines.1;omega)
   ·exact Nat.le_trans (bi3 _) (by have:=hp.inls.1;omega)
   ·exact Nat.le_trans (bi4 _) (by have:=hp.vars.1;omega)
   ·exact Nat.le_trans (bi5 _) (by have:=hp.deps.1;omega)
   ·exact Nat.le_trans (bi6 _) au
theorem bU_inv {b0:Li 3} {o:Bool} (hA:∀ k:Nat,k<@ln (ah 35) T->(gt 35 T k:fA).At.toNat<=@ln (ah 3) b0):∀ k:Nat,k<=@ln (ah 35) T->@ln (ah 0) (bU lN lS T b0 o k).Jz=k/\@ln (ah 3) (bU lN lS T b0 o k).Dk=@ln (ah 3) b0
 |0,_=>⟨rfl,rfl⟩
 |k+1,hk=>by
   obtain⟨h1,h2⟩:=bU_inv (o:=o) hA k au
   refine⟨(@List.length_append (ah 0) _ _).trans (by rw [h1];rfl),?_⟩
   refine Eq.trans ?_ h2;exact Bo (Nat.le_trans (hA k au) (Nat.le_of_eq h2.symm)) (Nat.le_refl _)
end
abbrev lT (c:Nat) (l:Li c):Nat:=@ln (ah c) l
structure UOk (nm:ByteArray) (N:Li 19) (I:Li 21) (O:Li 23) (A B:Li 6) (Q:Li 1) (V:Li 27) (C:Li 31) (lN lS:Li 0) (T:Li 35):Prop where
 name:jT nm
 len:lT 19 N<=1048575/\lT 21 I<=1048576/\lT 23 O<=1048576/\lT 6 A<=1048576/\lT 6 B<=1048576/\lT 31 C<=1048576/\lT 0 lN<=1048576/\lT 0 lS<=1048576/\lT 35 T<=1048576
 str:∀ k,k<lT 19 N->jT (nN N k).Obj/\jT (nN N k).gD/\jT (nN N k).Bytes
 refs:∀ k,k<lT 19 N->AX (nN N k)<=1048576
 marks:∀ k,k<lT 19 N->lT 9 (nN N k).Marks<=1048576/\∀ j,j<lT 9 (nN N k).Marks->jT (gt 9 (nN N k).Marks j:eU).Name
 lines:∀ k,k<lT 19 N->lT 11 (nN N k).Lines<=1048576/\∀ j,j<lT 11 (nN N k).Lines->jT (gt 11 (nN N k).Lines j:fQ).File
 inls:∀ k,k<lT 19 N->lT 13 (nN N k).dK<=1048576/\∀ j,j<lT 13 (nN N k).dK->jT (gt 13 (nN N k).dK j:dW).Name/\jT (gt 13 (nN N k).dK j:dW).File
 vars:∀ k,k<lT 19 N->lT 15 (nN N k).Vars<=1048576/\∀ j,j<lT 15 (nN N k).Vars->jT (gt 15 (nN N k).Vars j:bQ).Name
 deps:∀ k,k<lT 19 N->lT 17 (nN N k).gy<=1048576
 imps:∀ k,k<lT 21 I->jT (gt 21 I k:qo).Name/\jT (gt 21 I k:qo).Version
 offs:∀ k,k<lT 23 O->jT (gt 23 O k:jd).Name/\jT (gt 23 O k:jd).Version
 needs:∀ k,k<lT 1 Q->jT (gt 1 Q k)
 vers:vOk V
section
variable {nm:ByteArray} {N:Li 19} {I:Li 21} {O:Li 23} {A B:Li 6} {Q:Li 1} {V:Li 27} {C:Li 31} {lN lS:Li 0} {T:Li 35}
theorem XC (hU:UOk nm N I O A B Q V C lN lS T) {t:bE} (h:BP N I t=true):Sc N I t:=by
 refine⟨fun hk=>?_,fun hk=>?_⟩
 ·obtain⟨h1,h2⟩:=sD h hk;have h2':t.N<(lT 19 N:Nat):=h2;obtain⟨h3,h4,_⟩:=hU.str t.N.toNat au
  exact⟨h1,h2,h3,h4⟩
 ·obtain⟨h1,h2⟩:=PX h hk;have h2':t.N<(lT 21 I:Nat):=h2;obtain⟨h3,h4⟩:=hU.imps t.N.toNat au
  exact⟨h1,h2,h3,h4⟩
theorem ndp_of (hU:UOk nm N I O A B Q V C lN lS T) (h:uq N I=true) {k:Nat} (hk:k<lT 19 N):ndP N I (nN N k):=by
 obtain⟨h1,h2,h3⟩:=Nq h hk;obtain⟨s1,s2,s3⟩:=hU.str k hk;refine⟨s1,s2,s3,⟨hU.refs k hk,fun j hj=>XC hU (Xh (h2 j hj)).1⟩,hU.marks k hk,hU.lines k hk,hU.inls k hk,⟨(hU.vars k hk).1,fun j hj=>⟨?_,(hU.vars k hk).2 j hj⟩⟩,⟨hU.deps k hk,fun _ _=>trivial⟩⟩
 have hw:=h3 j hj;generalize (gt 15 (nN N k).Vars j:bQ)=v at hw;unfold l8 at hw
 by_cases hv:v.Where=2
 ·rw [decide_eq_true hv]at hw;simp only [Bool.not_true,cond_false,Bool.and_eq_true,Bool.or_eq_true,decide_eq_true_eq]at hw;rcases hw.2 with h4|h4
  ·exact⟨fun q=>by omega,fun q=>by omega⟩
  ·exact XC hU h4.2
 ·rw [decide_eq_false hv]at hw;simp only [Bool.not_false,cond_true,Bool.and_eq_true,decide_eq_true_eq]at hw;exact⟨fun q=>by omega,fun q=>by omega⟩
theorem unNull6:K9 6=false:=by decide +kernel
theorem XJ (h:uq N I=true) (hl:lT 0 lN=lT 19 N) {i j:Nat} (hi:i<lT 19 N) (hj:j<AX (nN N i)) (h6:(gt 7 (nN N i).Refs j:gX).Kind=6):Fv lN (pz lN i (gt 7 (nN N i).Refs j)):=fun h1=>by
 have hf:=(Nq h hi).2.1 j hj;obtain⟨he,hn⟩:=Xh hf;have h1:¬ (gt 7 (nN N i).Refs j:gX).To.Kind=1:=h1;rcases une_k he with h0|h0|h0
 ·obtain⟨q1,q2⟩:=sD he h0;have q2:(gt 7 (nN N i).Refs j:gX).To.N<(lT 19 N:Nat):=q2;have hg:0<=(gt 7 (nN N i).Refs j:gX).To.N/\(gt 7 (nN N i).Refs j:gX).To.N<(lT 0 lN:Nat):=⟨q1,au⟩
  exact hg
 ·exact absurd h0 h1
 ·have:=hn h0;rw [h6,unNull6]at this;cases this
structure BdF (N:Li 19) (I:Li 21) (O:Li 23) (A B:Li 6) (C:Li 31) (e:bE) (lN lS:Li 0) (T:Li 35) (lc ld:Int):Prop where
 ll:lT 0 lN=lT 19 N
 ls:lT 0 lS=lT 21 I
 lds:0<=ld/\ld<=1048576
 nd:∀ k:Nat,k<lT 19 N->NdOk N lN lS T ld.toNat k
 np:∀ k:Nat,k<lT 19 N->ndP N I (nN N k)
 vr:∀ k:Nat,k<lT 19 N->∀ j,j<lT 15 (nN N k).Vars->(gt 15 (nN N k).Vars j:bQ).Where=2->BR lN (gt 15 (nN N k).Vars j:bQ).Target
 en:BR lN e
 s1:∀ k,k<lT 35 T->(gt 35 T k:fA).Kind=1->0<=(gt 35 T k:fA).N/\(gt 35 T k:fA).N<(lT 0 lS:Nat)
 s0:∀ k,k<lT 35 T->¬ (gt 35 T k:fA).Kind=1->0<=(gt 35 T k:fA).N/\(gt 35 T k:fA).N<(lT 0 lN:Nat)
 sa:∀ k,k<lT 35 T->0<=(gt 35 T k:fA).At/\(gt 35 T k:fA).At+8<=ld
 k1:∀ k,k<lT 23 O->0<=(gt 23 O k:jd).Node/\(gt 23 O k:jd).Node<(lT 0 lN:Nat)
 k2:∀ k,k<lT 6 A->BR lN (gt 6 A k:bE)
 k3:∀ k,k<lT 6 B->BR lN (gt 6 B k:bE)
 k4:∀ k,k<lT 31 C->0<=(gt 31 C k:dZ).Node/\(gt 31 C k:dZ).Node<(lT 19 N:Nat)
 k5:∀ k,k<lT 31 C->BR lN (gt 31 C k:dZ).Code
theorem bdf_of {b:Bool} {e:bE} {lc ld lz lt:Int} (hU:UOk nm N I O A B Q V C lN lS T) (hu:lg nm Q V N I O b A B e C=true) (hs:mg N (lT 21 I) lN lS T lc ld lz lt=true):BdF N I O A B C e lN lS T lc ld:=by
 obtain⟨u1,u2,u3,u4⟩:=Xg hu;obtain⟨hp,p1,p2⟩:=str_p hs;obtain⟨⟨hl,hl2⟩,⟨z1,z2,z3,z4,z5,z6⟩,p3,p4⟩:=plr_p hp;obtain⟨c1,c2,c3⟩:=unl_p u3
 have up:∀ t:bE,(t.Kind=0->0<=t.N/\t.N<(lT 19 N:Nat))->BR lN t:=fun t h q=>by
   have:=h q;have hl:@ln (ah 0) lN=lT 19 N:=hl;exact⟨this.1,au⟩
 refine⟨hl,hl2,⟨au,au⟩,fun k hk=>?_,fun k hk=>ndp_of hU u1 hk,fun k hk j hj hw=>up _ (unw_x ((Nq u1 hk).2.2 j hj) hw),up _ c3,fun k hk hq=>?_,fun k hk hq=>?_,fun k hk=>?_,fun k hk=>?_,fun k hk=>up _ (c1 k hk),fun k hk=>up _ (c2 k hk),fun k hk=>(unh_p u4 hk).1,fun k hk=>up _ (unh_p u4 hk).2⟩
 ·obtain⟨d1,d2,d3⟩:=Nq u1 hk;obtain⟨m1,m2,m3,m4,_⟩:=Aq d1;obtain⟨a1,a2⟩:=p3 k hk;have hl':@ln (ah 0) lN=@ln (ah 19) N:=hl;have hk':k<@ln (ah 19) N:=hk;refine⟨⟨au,au⟩,au,fun j hj=>?_,hU.refs k hk,fun hq=>?_,fun hq=>?_⟩
  ·have hx:=Xh (d2 j hj);have hn:0<=(k:Int)/\(k:Int)<(@ln (ah 0) lN:Nat):=⟨au,au⟩
   refine⟨⟨au,au⟩,⟨au,au⟩,⟨hn,up _ (sD hx.1),fun hq=>?_⟩,au,fun h6=>XJ u1 hl hk hj h6,fun h6 hsv=>?_⟩
   ·have h1:=PX hx.1 hq;have h2:@ln (ah 0) lS=@ln (ah 21) I:=hl2;have h3:(gt 7 (nN N k).Refs j:gX).To.N<(@ln (ah 0) lS:Nat):=by have:=h1.2;have:(gt 7 (nN N k).Refs j:gX).To.N<(@ln (ah 21) I:Nat):=this;omega
    exact⟨h1.1,h3⟩
   ·have hmem:pz lN k (gt 7 (nN N k).Refs j)∈fu N lN:=Ku.2 ⟨k,j,hk,hj,h6,rfl⟩;have hc:DJ N lN k j=pz lN k (gt 7 (nN N k).Refs j):=rfl;have hj':j<@ln (ah 7) (nN N k).Refs:=hj;unfold l9 at hsv ⊢
    have hcond:(decide ((k:Int)<0)||decide ((N.length:Int)<=(k:Int))||decide ((j:Int)<0)||decide (((gt 19 N (k:Int).toNat).Refs.length:Int)<=(j:Int)) || !decide ((gt 7 (gt 19 N (k:Int).toNat).Refs (j:Int).toNat).Kind=6))=false:=by
      have e1:(gt 7 (gt 19 N (k:Int).toNat).Refs (j:Int).toNat).Kind=6:=h6;have e2:j<(gt 19 N (k:Int).toNat).Refs.length:=hj';rw [decide_eq_true e1,decide_eq_false au,decide_eq_false au,decide_eq_false au,decide_eq_false au]
      rfl
    rw [hcond]at hsv ⊢;rw [cond_false]at hsv ⊢;rw [hc]at hsv ⊢
    cases hnd:uE lN (pz lN k (gt 7 (nN N k).Refs j))with
    |false=>rw [hnd]at hsv;exact absurd (show(0:Int)<=-1 from hsv) (by decide)
    |true =>
      have hf:=p2 _ hmem hnd;have hlt:=LA (c:=pz lN k (gt 7 (nN N k).Refs j)) (l:=T) (@ln (ah 35) T) 0 hf;have hlt:mh (pz lN k (gt 7 (nN N k).Refs j)) T<((0+@ln (ah 35) T:Nat):Int):=hlt;show max (mh (pz lN k (gt 7 (nN N k).Refs j)) T) 0<_;omega
  ·have hq':(nN N k).Kind=0\/(nN N k).Kind=1:=hq
   have hb:oz (nN N k).Kind=false:=by
     unfold oz;rcases hq' with e|e<;>rw [e]<;>decide
   obtain⟨b1,b2⟩:=a2 hb;have hm:=m4 hq';have e1:((gt 19 N (k:Int).toNat:aM).Bytes.size:Int)=(nN N k).Size:=hm;have e2:nJ lN (k:Int).toNat=gI lN k:=rfl
   have hi:kK (nN N k).Kind=0/\(nN N k).Kind=0\/kK (nN N k).Kind=1/\(nN N k).Kind=1:=by
     rcases hq' with e|e
     ·exact .inl ⟨by rw [e];decide +kernel,e⟩
     ·exact .inr ⟨by rw [e];decide +kernel,e⟩
   rw [e1,e2];rcases hi with ⟨e,_⟩|⟨e,_⟩<;>rw [e]at b1 b2
   ·have f1:wK lc ld lz 0=0:=rfl;have f2:wK lc ld lz (0+1)=lc:=rfl;rw [f1]at b1;rw [f2,IntKind.wrap_i64]at b2;exact⟨b1,au⟩
   ·have f1:wK lc ld lz 1=lc:=rfl;have f2:wK lc ld lz (1+1)=ld:=rfl;rw [f1]at b1;rw [f2,IntKind.wrap_i64]at b2;exact⟨au,au⟩
  ·have hq':(nN N k).Kind=3:=hq
   have hb:oz (nN N k).Kind=true:=by
     unfold oz;rw [hq'];rfl
   obtain⟨b1,b2⟩:=a1 hb;rw [IntKind.wrap_i64]at b2;have e1:((gt 19 N (k:Int).toNat:aM).Bytes.size:Int)<=(nN N k).Size:=smp_le d1;have e2:nJ lN (k:Int).toNat=gI lN k:=rfl;have e3:(gt 19 N (k:Int).toNat:aM).Size=(nN N k).Size:=rfl;rw [e2,e3];exact⟨b1,e1,au⟩
 ·have:=p1 k hk;unfold XM at this;simp only [Bool.or_eq_true,Bool.and_eq_true,decide_eq_true_eq,hq]at this;have hl2':@ln (ah 0) lS=lT 21 I:=hl2;rcases this with h|h
  ·exact⟨h.1.1.2,by have:=h.1.2;show _<((@ln (ah 0) lS:Nat):Int);omega⟩
  ·exact absurd h.1.1 (by decide)
 ·have:=p1 k hk;unfold XM at this;simp only [Bool.or_eq_true,Bool.and_eq_true,decide_eq_true_eq,hq,false_and,false_or]at this;have hl':@ln (ah 0) lN=N.length:=hl;exact⟨this.1.2,by have:=this.2;show _<((@ln (ah 0) lN:Nat):Int);omega⟩
 ·obtain⟨h1,h2⟩:=p4 k hk;exact⟨h1,au⟩
 ·have h:=uno_p u2 hk;have hl':@ln (ah 0) lN=@ln (ah 19) N:=hl;exact⟨h.1,by have:=h.2;show _<((@ln (ah 0) lN:Nat):Int);omega⟩
end
abbrev b0 (d:Int):Li 3:=List.replicate d.toNat (UInt8.ofNat 0)
def bB (u:fZ) (l:bX):BS:=bF u.Nodes u.Imports l.Nodes l.Slots l.kY l.Zero (b0 l.Data) (@ln (ah 19) u.Nodes)
def bV (u:fZ) (l:bX):BU:=bU l.Nodes l.Slots l.kY (bB u l).Dk (bB u l).ok (@ln (ah 35) l.kY)
def bImgS (u:fZ) (l:bX) (s:BS) (q:BU) (x:Iy) (d:List lM):jr :=
 { Name:=u.Name,Lib:=u.Lib,Code:=l.Code,Data:=l.Data,Zero:=l.Zero,Bytes:=ofBytes q.Dk,Tls:=ofBytes s.tl,Block:=l.Tls,Nodes:=s.nodes,Exports:=Dn u.lQ l.Nodes [],Imports:=u.Imports,Slots:=l.Slots,kY:=DX q.Jz,Dyns:=d,lZ:=vI u.lZ l.Nodes [],oQ:=vI u.oQ l.Nodes [],Entry:=Ji l.Nodes u.Entry (-1),Needs:=u.Needs,fJ:=u.fJ,Info:=x,Changes:=Kv u.Changes u.Nodes l.Nodes [] }
def Io (u:fZ) (l:bX) (x:Iy) (d:List lM):jr:=bImgS u l (bB u l) (bV u l) x d
def VK:jr:=⟨⟨#[]⟩,false,0,0,0,⟨#[]⟩,⟨#[]⟩,0,[],[],[],[],[],[],[],[],0,[],[],⟨[],[],[],[],[],[]⟩,[]⟩
def xL (u:fZ) (l:bX):Bool:=lg u.Name u.Needs u.fJ u.Nodes u.Imports u.lQ u.Lib u.lZ u.oQ u.Entry u.Changes&&jV u.Nodes u.Imports.length l.Nodes l.Slots l.kY l.Code l.Data l.Zero l.Tls&&mg u.Nodes u.Imports.length l.Nodes l.Slots l.kY l.Code l.Data l.Zero l.Tls
structure BSrt (u:fZ) (l:bX) (x:Iy) (d:List lM):Prop where
 marks:sj (c:=9) Zx (bB u l).marks x.Marks
 lines:sj (c:=11) Zy (bB u l).lines x.Lines
 ends:sj (c:=44) Zw (bB u l).ends x.Ends
 inls:sj (c:=13) Om (bB u l).inls x.dK
 vars:sj (c:=46) kyVar (bB u l).vars x.Vars
 deps:sj (c:=17) Tv (bB u l).deps x.gy
 d:sj (c:=42) kyDyn (D6 l.Slots (bB u l).dyns) d
def bRes (u:fZ) (l:bX) (r:jr×Int):Prop:=(xL u l=false/\r=(VK,1))\/(xL u l=true/\∃ x d,BSrt u l x d/\r=(bif !(bV u l).ok || !ni (Io u l x d)then(VK,6)else(Io u l x d,0)))
abbrev MX (u:fZ) (l:bX):Prop:=UOk u.Name u.Nodes u.Imports u.lQ u.lZ u.oQ u.Needs u.fJ u.Changes l.Nodes l.Slots l.kY
theorem QI {c n0:Nat} {B:Nat->Li c->(Li c->Li c)->Li c} {P:ah c->Prop} (h:∀ k s nx,k<n0->(∀ x:ah c,@List.Mem (ah c) x s->P x)->∃ s',B k s nx=nx s'/\∀ x:ah c,@List.Mem (ah c) x s'->P x) :
   ∀ (n k:Nat) (s:Li c),k+n<=n0->(∀ x:ah c,@List.Mem (ah c) x s->P x)->∀ x:ah c,@List.Mem (ah c) x (lp B rC n k s)->P x
 |0,_,_,_,hs=>hs
 |n+1,k,s,hk,hs=>by
   obtain⟨s',h1,h2⟩:=h k s (lp B rC n (k+1)) au hs
   show ∀ x:ah c,@List.Mem (ah c) x (B k s (lp B rC n (k+1)))->P x;rw [h1];exact QI h n (k+1) s' au h2
theorem GX {c:Nat} {P:ah c->Prop} {s:Li c} {y:ah c} (hs:∀ x:ah c,@List.Mem (ah c) x s->P x) (hy:P y):∀ x:ah c,@List.Mem (ah c) x (@HAppend.hAppend (Li c) (Li c) (Li c) _ s [y])->P x:=fun x hx=>by
 have hx:x∈s++[y]:=hx;rcases List.mem_append.1 hx with h|h
 ·exact hs x h
 ·rw [List.mem_singleton.1 h];exact hy
theorem QZ {c:Nat} {P:ah c->Prop} {s:Li c} (hs:∀ x:ah c,@List.Mem (ah c) x s->P x) {k:Nat} (hk:k<@ln (ah c) s):P (gt c s k):=by
 have e:gt c s k=s[k]:=by
   show s.getD k _=_;rw [List.getD_eq_getElem?_getD,List.getElem?_eq_getElem hk];rfl
 rw [e];exact hs _ (List.getElem_mem hk)
theorem yR {s:ByteArray} (h:jT s):Ai s:=by unfold jT at h;unfold Ai;omega
section
variable {u:fZ} {l:bX}
theorem bF_str (hU:MX u l) {z:Int} {b:Li 3}:∀ k:Nat,k<=lT 19 u.Nodes->∀ x:ah 38,@List.Mem (ah 38) x (bF u.Nodes u.Imports l.Nodes l.Slots l.kY z b k).nodes->jT (fB.gD x)/\jT (fB.Obj x)
 |0,_=>fun x hx=>by cases hx
 |k+1,hk=>by
   have h:=hU.str k au
   exact GX (c:=38) (P:=fun x=>jT (fB.gD x)/\jT (fB.Obj x)) (bF_str hU k au) ⟨h.2.1,h.1⟩
theorem ZM (hU:MX u l) (hc:∀ k,k<lT 31 u.Changes->0<=(gt 31 u.Changes k:dZ).Node/\(gt 31 u.Changes k:dZ).Node<(lT 19 u.Nodes:Nat)) (x:Iy) (d:List lM):ImOk (Io u l x d):=by
 refine⟨yR hU.name,fun k hk=>?_,fun k hk=>?_,fun k hk=>?_,hU.vers,fun k hk=>yR (hU.needs k hk),fun k hk=>?_⟩
 ·have h:=QZ (c:=38) (P:=fun x=>jT (fB.gD x)/\jT (fB.Obj x)) (bF_str hU (z:=l.Zero) (b:=b0 l.Data) (lT 19 u.Nodes) (Nat.le_refl _)) hk
  exact⟨yR h.1,yR h.2⟩
 ·have h:=QZ (c:=40) (P:=fun x=>jT (jL.Name x)/\jT (jL.Version x)) (QI (c:=40) (n0:=lT 23 u.lQ) (B:=Im u.lQ l.Nodes) (P:=fun x=>jT (jL.Name x)/\jT (jL.Version x)) (fun k s nx hk hs=>⟨_,rfl,GX (c:=40) (P:=fun x=>jT (jL.Name x)/\jT (jL.Version x)) hs (hU.offs k hk)⟩) (lT 23 u.lQ) 0 [] au (fun x hx=>by cases hx)) hk
  exact⟨yR h.1,yR h.2⟩
 ·have h:=hU.imps k hk;exact⟨yR h.1,yR h.2⟩
 ·have h:=QZ (c:=49) (P:=fun x=>jT (rZ.gD x)/\jT (rZ.Obj x)) (QI (c:=49) (n0:=lT 31 u.Changes) (B:=O4 u.Changes u.Nodes l.Nodes) (P:=fun x=>jT (rZ.gD x)/\jT (rZ.Obj x)) (fun k s nx hk hs=>⟨_,rfl,GX (c:=49) (P:=fun x=>jT (rZ.gD x)/\jT (rZ.Obj x)) hs (by
    have h:=hc k hk;have h2:=hU.str (gt 31 u.Changes k:dZ).Node.toNat au
    exact⟨h2.2.1,h2.1⟩)⟩) (lT 31 u.Changes) 0 [] au (fun x hx=>by cases hx)) hk
  exact⟨yR h.1,yR h.2⟩
end
end Go.SX
