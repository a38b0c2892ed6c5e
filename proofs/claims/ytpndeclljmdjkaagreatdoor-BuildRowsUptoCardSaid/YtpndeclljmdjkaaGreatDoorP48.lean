/- A part of the proof (texts BldR, LawV). -/
import Derived.Deep.DeepHandedRow
import Derived.Deep.DeepWitnessRowRef
import Derived.LaidMore
import Derived.Test.YtpndeclljmdjkaaGreatDoorP09
import Derived.Test.YtpndeclljmdjkaaGreatDoorP25
import Derived.Test.YtpndeclljmdjkaaGreatDoorP47
import GoSem.ClaimSeven
set_option linter.all false
set_option maxRecDepth 100000
namespace Go.SX
open List renaming getD_eq_getElem?_getD -> fI,length_append -> dL
open List renaming length -> ln
open Go.XK Go.RowKit
abbrev Af (c:Nat) (y:ah c) (l:Li c):Prop:=@List.Mem (ah c) y l
theorem QE {c:Nat} {l:Li c} {y:ah c} (h:Af c y l):∃ j,j<lT c l/\gt c l j=y:=by
 have h:y∈l:=h;obtain⟨j,hj,e⟩:=List.getElem_of_mem h;refine⟨j,hj,?_⟩;show l.getD j _=_;rw [fI,List.getElem?_eq_getElem hj];exact e
section
variable {c:Nat} {B:Nat->Li c->(Li c->Li c)->Li c} {e:Nat->ah c}
theorem Tk (hB:∀ k s nx,B k s nx=nx (@HAppend.hAppend (Li c) (Li c) (Li c) _ s [e k])) {y:ah c}:∀ (n k:Nat) (s:Li c),Af c y s->Af c y (lp B rC n k s)
 |0,_,_,h=>h
 |n+1,k,s,h=>by
   show Af c y (B k s (lp B rC n (k+1)));rw [hB];exact Tk hB n (k+1) _ ((@List.mem_append (ah c) _ _ _).2 (.inl h))
theorem Zj (hB:∀ k s nx,B k s nx=nx (@HAppend.hAppend (Li c) (Li c) (Li c) _ s [e k])):∀ (n k:Nat) (s:Li c) (j:Nat),k<=j->j<k+n->Af c (e j) (lp B rC n k s)
 |0,_,_,_,h1,h2=>absurd h2 au
 |n+1,k,s,j,h1,h2=>by
   show Af c (e j) (B k s (lp B rC n (k+1)));rw [hB];rcases Nat.lt_or_ge k j with h|h
   ·exact Zj hB n (k+1) _ j h au
   ·have:j=k:=by omega
    subst this;exact Tk hB n (j+1) _ ((@List.mem_append (ah c) _ _ _).2 (.inr (List.mem_singleton.2 rfl)))
theorem Og (hB:∀ k s nx,B k s nx=nx (@HAppend.hAppend (Li c) (Li c) (Li c) _ s [e k])):∀ (n k:Nat) (s:Li c),lT c (lp B rC n k s)=lT c s+n
 |0,_,_=>rfl
 |n+1,k,s=>by
   show lT c (B k s (lp B rC n (k+1)))=_;rw [hB,Og hB n (k+1)];have h:lT c (@HAppend.hAppend (Li c) (Li c) (Li c) _ s [e k])=lT c s+1:=@dL (ah c) s [e k];omega
end
def Mh (M:Li 9) (z:Int):Nat->Nat
 |0=>0
 |k+1=>Mh M z k+(bif decide ((gt 9 M k:eU).At<z)then 1 else 0)
theorem Y7 {M:Li 9} {z:Int}:∀ k,Mh M z k<=k
 |0=>Nat.le_refl _
 |k+1=>by
   have:=Y7 (M:=M) (z:=z) k;unfold Mh;cases decide ((gt 9 M k:eU).At<z)
   ·show Mh M z k+0<=_;omega
   ·show Mh M z k+1<=_;omega
def mkR (M:Li 9) (a:Int) (k:Nat):eU:={ (gt 9 M k:eU)with At:=oD (gt 9 M k:eU).At a }
theorem Ij {M:Li 9} {z a:Int}:∀ (n k:Nat) (s:Li 9),lT 9 (lp (qm M z a) rC n k s)+Mh M z k=lT 9 s+Mh M z (k+n)
 |0,_,_=>rfl
 |n+1,k,s=>by
   have e1:lp (qm M z a) rC (n+1) k s=bif decide ((gt 9 M k:eU).At<z)then lp (qm M z a) rC n (k+1) (@HAppend.hAppend (List eU) (List eU) (List eU) _ s [mkR M a k])else lp (qm M z a) rC n (k+1) s:=rfl;have e2:k+(n+1)=k+1+n:=by omega
   have e3:Mh M z (k+1)=Mh M z k+(bif decide ((gt 9 M k:eU).At<z)then 1 else 0):=rfl;rw [e1,e2]
   cases hd:decide ((gt 9 M k:eU).At<z)with
   |true =>
     have ih:=Ij (M:=M) (z:=z) (a:=a) n (k+1) (@HAppend.hAppend (List eU) (List eU) (List eU) _ s [mkR M a k]);have h:lT 9 (@HAppend.hAppend (List eU) (List eU) (List eU) _ s [mkR M a k])=lT 9 s+1:=@dL (ah 9) s _;rw [hd]at e3;have e3:Mh M z (k+1)=Mh M z k+1:=e3;rw [h]at ih;rw [cond_true];omega
   |false =>
     have ih:=Ij (M:=M) (z:=z) (a:=a) n (k+1) s;rw [hd]at e3;have e3:Mh M z (k+1)=Mh M z k+0:=e3;rw [cond_false];omega
theorem lnEq_rf (x:fQ):Jd x x=true:=by
 unfold Jd;rw [decide_eq_true rfl,decide_eq_true rfl,decide_eq_true rfl,decide_eq_true rfl];rfl
theorem vrEq_rf (x:kR):D8 x x=true:=by
 unfold D8;rw [decide_eq_true rfl,decide_eq_true rfl,decide_eq_true rfl,decide_eq_true rfl,decide_eq_true rfl,decide_eq_true rfl];rfl
theorem Zf {L:Li 11} {x:fQ}:∀ (n k:Nat) (q:Int),q<=lp (vE L x) wR n k q
 |0,_,_=>Int.le_refl _
 |n+1,k,q=>by
   have e1:lp (vE L x) wR (n+1) k q=bif Jd (gt 11 L k) x then lp (vE L x) wR n (k+1) (q+1)else lp (vE L x) wR n (k+1) q:=rfl;rw [e1]
   cases Jd (gt 11 L k) x with
   |true=>exact Int.le_trans au (Zf n (k+1) (q+1))
   |false=>exact Zf n (k+1) q
theorem lw_gt {L:Li 11} {x:fQ}:∀ (n k:Nat) (q:Int) (j:Nat),k<=j->j<k+n->Jd (gt 11 L j) x=true->q<lp (vE L x) wR n k q
 |0,_,_,_,h1,h2,_=>absurd h2 au
 |n+1,k,q,j,h1,h2,h3=>by
   have e1:lp (vE L x) wR (n+1) k q=bif Jd (gt 11 L k) x then lp (vE L x) wR n (k+1) (q+1)else lp (vE L x) wR n (k+1) q:=rfl;rw [e1]
   cases hd:Jd (gt 11 L k) x with
   |true=>exact Int.lt_of_lt_of_le au (Zf n (k+1) (q+1))
   |false =>
     rcases Nat.lt_or_ge k j with h|h
     ·exact lw_gt n (k+1) q j h au h3
     ·have:j=k:=by omega
      subst this;rw [hd]at h3;cases h3
theorem Ze {L:Li 11} {x:fQ} (h:Af 11 x L):AV L x≠0:=by
 obtain⟨j,hj,e⟩:=QE h;have h:(0:Int)<AV L x:=lw_gt (L:=L) (x:=x) (lT 11 L) 0 0 j (Nat.zero_le _) au (by rw [e];exact lnEq_rf x)
 exact Int.ne_of_gt h
theorem Zd {V:Li 46} {w:kR}:∀ (n k j:Nat),k<=j->j<k+n->D8 (gt 46 V j) w=true->lp (tH V w) G5 n k ()=true
 |0,_,_,h1,h2,_=>absurd h2 au
 |n+1,k,j,h1,h2,h3=>by
   have e1:lp (tH V w) G5 (n+1) k ()=bif D8 (gt 46 V k) w then true else lp (tH V w) G5 n (k+1) ():=rfl;rw [e1]
   cases hd:D8 (gt 46 V k) w with
   |true=>rfl
   |false =>
     rcases Nat.lt_or_ge k j with h|h
     ·exact Zd n (k+1) j h au h3
     ·have:j=k:=by omega
      subst this;rw [hd]at h3;cases h3
theorem Tf {V:Li 46} {w:kR} (h:Af 46 w V):Tg V w=true:=by
 obtain⟨j,hj,e⟩:=QE h;exact Zd _ 0 j (Nat.zero_le _) (by have:j<lT 46 V:=hj;show j<0+lT 46 V;omega) (by rw [e];exact vrEq_rf w)
theorem Mw {m:jr} (h:ni m=true):Hg m=true:=by
 unfold ni at h;simp only [Bool.and_eq_true]at h;exact h.1.2
theorem ZH {m:jr} (h:ni m=true) {j:Nat} (h0:0<j) (h1:j<lT 9 m.Info.Marks):(gt 9 m.Info.Marks (j-1):eU).At<=(gt 9 m.Info.Marks j:eU).At:=by
 have hi:=Mw h;unfold Hg at hi;simp only [Bool.and_eq_true]at hi;obtain⟨⟨⟨⟨⟨hm,_⟩,_⟩,_⟩,_⟩,_⟩:=hi;have:=Gj _ 0 hm j (Nat.zero_le _) (by rw [Nat.zero_add];exact h1)
 simp only [zR,Bool.and_eq_true,Bool.or_eq_true,decide_eq_true_eq]at this;rcases this.2 with h3|h3
 ·omega
 ·rw [show((j:Int)-1).toNat=j-1 by omega]at h3
  exact h3
theorem ZI {m:jr} (h:ni m=true) {j:Nat} (h0:0<j) (h1:j<lT 11 m.Info.Lines):(gt 11 m.Info.Lines (j-1):fQ).At<=(gt 11 m.Info.Lines j:fQ).At:=by
 have hi:=Mw h;unfold Hg at hi;simp only [Bool.and_eq_true]at hi;obtain⟨⟨⟨⟨⟨_,hm⟩,_⟩,_⟩,_⟩,_⟩:=hi;have:=Gj _ 0 hm j (Nat.zero_le _) (by rw [Nat.zero_add];exact h1)
 simp only [zS,Bool.and_eq_true,Bool.or_eq_true,decide_eq_true_eq]at this;rcases this.2 with h3|h3
 ·omega
 ·rw [show((j:Int)-1).toNat=j-1 by omega]at h3
  exact h3
theorem im_vars {m:jr} (h:ni m=true) {x:kR} (hx:Af 46 x m.Info.Vars) (hw:x.Where=2):-1<=x.N/\x.N<=IntKind.i64.wrap (m.Zero-1):=by
 have hi:=Mw h;unfold Hg at hi;simp only [Bool.and_eq_true]at hi;obtain⟨⟨⟨_,_⟩,_,hm⟩,_⟩:=hi;obtain⟨j,h1,e⟩:=QE hx;have:=Gj _ 0 hm j (Nat.zero_le _) (by rw [Nat.zero_add];exact h1)
 rw [e]at this;simp only [Hf,jX,Bool.and_eq_true,Bool.or_eq_true,decide_eq_true_eq,hw]at this;rcases this.2 with (h3|h3)|h3
 ·exact absurd h3 (by decide)
 ·exact absurd h3.1 (by decide)
 ·exact h3.2
section
variable (u:fZ) (l:bX)
abbrev nG (k:Nat):BS:=bF u.Nodes u.Imports l.Nodes l.Slots l.kY l.Zero (b0 l.Data) k
def lnR (i j:Nat):fQ:={ (gt 11 (nN u.Nodes i).Lines j:fQ)with At:=oD (gt 11 (nN u.Nodes i).Lines j:fQ).At (nJ l.Nodes i) }
abbrev WJ (i j:Nat):bQ:=gt 15 (nN u.Nodes i).Vars j
def vaR (i j:Nat):kR:=⟨0,oD (WJ u i j).From (nJ l.Nodes i),oD (WJ u i j).To (nJ l.Nodes i),(WJ u i j).Name,(WJ u i j).Where,Ik l.Nodes l.Zero (WJ u i j)⟩
end
section
variable {u:fZ} {l:bX}
theorem O6 {i j:Nat} (hj:j<lT 11 (nN u.Nodes i).Lines):∀ k,i<k->Af 11 (lnR u l i j) (nG u l k).lines
 |0,h=>absurd h (Nat.not_lt_zero _)
 |k+1,h=>by
   show Af 11 (lnR u l i j) (rX (nN u.Nodes k).Lines (nJ l.Nodes k) (nG u l k).lines);rcases Nat.lt_or_ge i k with q|q
   ·exact Tk (c:=11) (e:=fun j=>lnR u l k j) (fun _ _ _=>rfl) _ 0 _ (O6 hj k q)
   ·have:i=k:=by omega
    subst this;exact Zj (c:=11) (e:=fun j=>lnR u l i j) (fun _ _ _=>rfl) _ 0 _ j (Nat.zero_le _) (by rw [Nat.zero_add];exact hj)
theorem Uo {i j:Nat} (hj:j<lT 15 (nN u.Nodes i).Vars):∀ k,i<k->Af 46 (vaR u l i j) (nG u l k).vars
 |0,h=>absurd h (Nat.not_lt_zero _)
 |k+1,h=>by
   show Af 46 (vaR u l i j) (kH (nN u.Nodes k).Vars l.Nodes l.Zero (nJ l.Nodes k) (nG u l k).vars);rcases Nat.lt_or_ge i k with q|q
   ·exact Tk (c:=46) (e:=fun j=>vaR u l k j) (fun _ _ _=>rfl) _ 0 _ (Uo hj k q)
   ·have:i=k:=by omega
    subst this;exact Zj (c:=46) (e:=fun j=>vaR u l i j) (fun _ _ _=>rfl) _ 0 _ j (Nat.zero_le _) (by rw [Nat.zero_add];exact hj)
theorem Ll {c:Nat} {s:Li c} {x:ah c} {k:Nat}:(k<lT c s->gt c (@HAppend.hAppend (Li c) (Li c) (Li c) _ s [x]) k=gt c s k)/\(k=lT c s->gt c (@HAppend.hAppend (Li c) (Li c) (Li c) _ s [x]) k=x):=by
 constructor
 ·intro h;show(s++[x]).getD k _=s.getD k _;rw [fI,fI,List.getElem?_append_left h]
 ·intro h;show(s++[x]).getD k _=x;rw [fI,h,List.getElem?_append_right (Nat.le_refl _),Nat.sub_self];rfl
theorem O5:∀ n,lT 38 (nG u l n).nodes=n/\∀ k,k<n->(gt 38 (nG u l n).nodes k:fB).At=nJ l.Nodes k
 |0=>⟨rfl,fun _ h=>absurd h (Nat.not_lt_zero _)⟩
 |n+1=>by
   obtain⟨h1,h2⟩:=O5 n;refine⟨(@dL (ah 38) (nG u l n).nodes _).trans (by rw [show @ln (ah 38) (nG u l n).nodes=n from h1];rfl),fun k hk=>?_⟩
   rcases Nat.lt_or_ge k n with q|q
   ·exact(congrArg fB.At ((Ll (c:=38) (s:=(nG u l n).nodes)).1 (by rw [h1];exact q))).trans (h2 k q)
   ·have:k=n:=by omega
    subst this;exact congrArg fB.At ((Ll (c:=38) (s:=(nG u l k).nodes)).2 h1.symm)
theorem bf_c0 (k:Nat):lT 9 (nG u l (k+1)).marks=lT 9 (nG u l k).marks+Mh (nN u.Nodes k).Marks (nN u.Nodes k).Size (lT 9 (nN u.Nodes k).Marks):=by
 have:=Ij (M:=(nN u.Nodes k).Marks) (z:=(nN u.Nodes k).Size) (a:=nJ l.Nodes k) (lT 9 (nN u.Nodes k).Marks) 0 (nG u l k).marks;rw [Nat.zero_add]at this;exact this
theorem bf_c1 (k:Nat):lT 11 (nG u l (k+1)).lines=lT 11 (nG u l k).lines+lT 11 (nN u.Nodes k).Lines:=Og (c:=11) (e:=fun j=>lnR u l k j) (fun _ _ _=>rfl) _ 0 _
theorem bf_c2 (k:Nat):lT 13 (nG u l (k+1)).inls=lT 13 (nG u l k).inls+lT 13 (nN u.Nodes k).dK:=Og (c:=13) (fun _ _ _=>rfl) _ 0 _
theorem bf_c3 (k:Nat):lT 46 (nG u l (k+1)).vars=lT 46 (nG u l k).vars+lT 15 (nN u.Nodes k).Vars:=Og (c:=46) (e:=fun j=>vaR u l k j) (fun _ _ _=>rfl) _ 0 _
theorem bf_c4 (k:Nat):lT 17 (nG u l (k+1)).deps=lT 17 (nG u l k).deps+lT 17 (nN u.Nodes k).gy:=Og (c:=17) (fun _ _ _=>rfl) _ 0 _
theorem bf_c5 (k:Nat):lT 44 (nG u l (k+1)).ends=lT 44 (nG u l k).ends+(bif decide ((nN u.Nodes k).Kind=0)&&decide (0<(nN u.Nodes k).Size)then 1 else 0):=by
 show lT 44 (Dm (nN u.Nodes k).Kind (nN u.Nodes k).Size (nJ l.Nodes k) (nG u l k).ends)=_;unfold Dm
 cases decide ((nN u.Nodes k).Kind=0)&&decide (0<(nN u.Nodes k).Size)with
 |true=>exact @dL (ah 44) _ _
 |false=>rfl
structure Uz (u:fZ) (l:bX) (m:jr):Prop where
 n0:lT 19 u.Nodes<=1048575
 ll:lT 0 l.Nodes=lT 19 u.Nodes
 e0:lT 9 m.Info.Marks=lT 9 (nG u l (lT 19 u.Nodes)).marks
 e1:lT 11 m.Info.Lines=lT 11 (nG u l (lT 19 u.Nodes)).lines
 e2:lT 13 m.Info.dK=lT 13 (nG u l (lT 19 u.Nodes)).inls
 e3:lT 46 m.Info.Vars=lT 46 (nG u l (lT 19 u.Nodes)).vars
 e4:lT 17 m.Info.gy=lT 17 (nG u l (lT 19 u.Nodes)).deps
 e5:lT 44 m.Info.Ends=lT 44 (nG u l (lT 19 u.Nodes)).ends
 bd:∀ k,k<=lT 19 u.Nodes->lT 9 (nG u l k).marks<=1099510579200/\lT 11 (nG u l k).lines<=1099510579200/\lT 13 (nG u l k).inls<=1099510579200/\lT 46 (nG u l k).vars<=1099510579200/\lT 17 (nG u l k).deps<=1099510579200/\lT 44 (nG u l k).ends<=1099510579200
 bn:∀ k,k<lT 19 u.Nodes->lT 9 (nN u.Nodes k).Marks<=1048576/\lT 11 (nN u.Nodes k).Lines<=1048576/\lT 13 (nN u.Nodes k).dK<=1048576/\lT 15 (nN u.Nodes k).Vars<=1048576/\lT 17 (nN u.Nodes k).gy<=1048576
 ln:∀ i,i<lT 19 u.Nodes->∀ j,j<lT 11 (nN u.Nodes i).Lines->AV m.Info.Lines (lnR u l i j)≠0
 va:∀ i,i<lT 19 u.Nodes->∀ j,j<lT 15 (nN u.Nodes i).Vars->DT m.Info.Vars m.Nodes l.Nodes l.Zero i (WJ u i j)=true
 vt:∀ i,i<lT 19 u.Nodes->∀ j,j<lT 15 (nN u.Nodes i).Vars->(WJ u i j).Target.Kind=0->0<=(WJ u i j).Target.N
 am:∀ j,0<j->j<lT 9 m.Info.Marks->(gt 9 m.Info.Marks (j-1):eU).At<=(gt 9 m.Info.Marks j:eU).At
 al:∀ j,0<j->j<lT 11 m.Info.Lines->(gt 11 m.Info.Lines (j-1):fQ).At<=(gt 11 m.Info.Lines j:fQ).At
theorem yj {c:Nat} {a b:Li c} (h:List.Perm (α:=ah c) a b):lT c a=lT c b:=@List.Perm.length_eq (ah c) a b h
theorem lw_var {u:fZ} {l:bX} {m:jr} {n i j:Nat} (hm:m.Nodes=(nG u l n).nodes) (hz:m.Zero=l.Zero) (hr:ni m=true) (z0:0<=l.Zero) (z1:l.Zero<=1048576) (hn:lT 0 l.Nodes=n) (ht:(WJ u i j).Where=2->BR l.Nodes (WJ u i j).Target)
   (hx:Af 46 (vaR u l i j) m.Info.Vars):DT m.Info.Vars m.Nodes l.Nodes l.Zero i (WJ u i j)=true:=by
 unfold vaR at hx;generalize hv:WJ u i j=v at ht hx;have e0:gI l.Nodes (i:Int).toNat=nJ l.Nodes i:=rfl;unfold DT;rw [e0]
 by_cases hw:v.Where=2
 ·have hb:=im_vars hr hx hw;rw [hz,IntKind.wrap_i64]at hb;have ht:=ht hw;unfold Ik at hx hb;rw [decide_eq_true hw,cond_true]at hx hb ⊢
  by_cases hk:v.Target.Kind=0
  ·obtain⟨t1,t2⟩:=ht hk;obtain⟨n1,n2⟩:=O5 (u:=u) (l:=l) n;have t2:v.Target.N<(n:Int):=by have:v.Target.N<(lT 0 l.Nodes:Nat):=t2;omega
   have eT:qQ m.Nodes v.Target=Ji l.Nodes v.Target (-1):=by
     unfold qQ Ji
     have hl:v.Target.N<(@ln (ah 38) m.Nodes:Nat):=by
       rw [hm];show v.Target.N<((lT 38 (nG u l n).nodes:Nat):Int);rw [n1];exact t2
     rw [decide_eq_true hk,decide_eq_true hl,hm];show IntKind.i64.wrap ((gt 38 (nG u l n).nodes v.Target.N.toNat:fB).At+v.Target.Off)=oD (nJ l.Nodes v.Target.N.toNat) v.Target.Off;rw [n2 _ au]
   rw [eT,decide_eq_true hk,Bool.true_and]
   by_cases hq:Ji l.Nodes v.Target (-1)=l.Zero
   ·rw [decide_eq_true hq,cond_true]at hx;rw [decide_eq_false au,cond_false]
    exact Tf hx
   ·rw [decide_eq_false hq,cond_false]at hx hb;have hb:-1<=Ji l.Nodes v.Target (-1)/\Ji l.Nodes v.Target (-1)<=_:=hb;rw [decide_eq_true au,cond_true]
    exact Tf hx
  ·have eb:Ji l.Nodes v.Target (-1) = -1:=by
     unfold Ji;rw [decide_eq_false hk];rfl
   rw [decide_eq_false hk,Bool.false_and,cond_false];rw [eb]at hx;have:(bif decide ((-1:Int)=l.Zero)then(-1:Int)else -1) = -1:=by cases decide ((-1:Int)=l.Zero)<;>rfl
   rw [this]at hx;exact Tf hx
 ·unfold Ik at hx;rw [decide_eq_false hw,cond_false]at hx ⊢;exact Tf hx
theorem rw_of {r:jr×Int} (hU:MX u l) (hr:bRes u l r) (h0:r.2=0):Uz u l r.1:=by
 rcases hr with ⟨_,rfl⟩|⟨hR,x,d,hS,hr⟩
 ·cases h0
 cases hc:(!(bV u l).ok || !ni (Io u l x d))with
 |true=>rw [hc]at hr;subst hr;cases h0
 |false =>
   rw [hc]at hr;subst hr;clear h0;show Uz u l (Io u l x d);simp only [Bool.or_eq_false_iff,Bool.not_eq_false']at hc;have hi:=hc.2;unfold xL at hR;simp only [Bool.and_eq_true]at hR;obtain⟨⟨hu,_⟩,hs⟩:=hR;have H:BdF u.Nodes u.Imports u.lQ u.lZ u.oQ u.Changes u.Entry l.Nodes l.Slots l.kY l.Code l.Data:=bdf_of hU hu hs;obtain⟨hp,_⟩:=str_p hs;obtain⟨_,⟨z1,z2,z3,z4,z5,z6⟩,_⟩:=plr_p hp;have hz:@ln (ah 3) (b0 l.Data)=l.Data.toNat:=List.length_replicate;have hI:=Rp (I:=u.Imports) (lz:=l.Zero) (b0:=b0 l.Data) (fun k hk=>by rw [hz];exact H.nd k hk) H.np
   have hn:lT 19 u.Nodes<=1048575:=hU.len.1;have hx:∀ i j,i<lT 19 u.Nodes->j<lT 15 (nN u.Nodes i).Vars->Af 46 (vaR u l i j) x.Vars:=fun i j hi hj=>(@List.Perm.mem_iff (ah 46) _ _ _ hS.vars.1).2 (Uo hj _ hi)
   refine⟨hn,H.ll,yj hS.marks.1,yj hS.lines.1,yj hS.inls.1,yj hS.vars.1,yj hS.deps.1,yj hS.ends.1,fun k hk=>?_,fun k hk=>?_,fun i hi j hj=>?_,fun i hi j hj=>?_,fun i hi j hj=>?_,fun j h0 h1=>ZH hi h0 h1,fun j h0 h1=>ZI hi h0 h1⟩
   ·obtain⟨i1,i2,i3,i4,i5,i6,i7,i8,i9,i10⟩:=hI k hk;have hk:k<=1048575:=Nat.le_trans hk hn;have hq:k*1048576<=1099510579200:=by omega
    exact⟨Nat.le_trans i5 hq,Nat.le_trans i6 hq,Nat.le_trans i7 hq,Nat.le_trans i8 hq,Nat.le_trans i9 hq,Nat.le_trans i10 hq⟩
   ·have hp:=H.np k hk;exact⟨hp.marks.1,hp.lines.1,hp.inls.1,hp.vars.1,hp.deps.1⟩
   ·exact Ze ((@List.Perm.mem_iff (ah 11) _ _ _ hS.lines.1).2 (O6 hj _ hi))
   ·exact lw_var (n:=lT 19 u.Nodes) rfl rfl hc.2 au z4 H.ll (H.vr i hi j hj) (hx i j hi hj)
   ·exact fun hk=>((((H.np i hi).vars).2 j hj).1.1 hk).1
end
end Go.SX
namespace Go.XK
open List renaming getD_eq_getElem?_getD -> fI,length_append -> dL
open Go.RowKit Go.ChangeShapes Go.WideShapes Go.ChangeAt
theorem DW {H:Type} {enc:TypeId×Value->H} {C:Checked} {os:Os} {f:FuncId} {fn:Func} {s:ChangeSpec} {conds:List PathCond} {tb:TypeId} {F:Stop.Interp} {laid:List (String×DataW Unit)}
   (own:ownKnob C.prog.godebug=none) (started:os.Started) (noInit:C.prog.inits.idxOf? f=none) (hfn:C.prog.funcs[f]?=some fn)
   (witness:∃ (w:World) (tape:Tape) (i:Input),w.os=os/\(w.forCall tape i).Shaped C.prog/\i.vars=[]/\Input.okWide C.prog (w.forCall tape i) .any w.heap.size f i /\
     (Go.Proofs.YtpndeclljmdjkaaGreatDoor.Rows.OpenSpec.upto s).preRow enc C.prog fn conds false laid (w.forCall tape i).memory i.args/\({}:Assume).holds C.prog (lone (Frame.enter C.prog f i.args .normal) [] (w.forCall tape i)))
   (hlaid:laidOutB C.prog=true) (hread:fn.params.toList.all (fun t=>C.prog.readableRec t&&Nat.blt t C.prog.types.size)=true) (hvars:s.vars=[])
   (hres:fn.resultTypes = #[tb]) (htb:C.prog.underlying tb=some .bool)
   (hs:∀ ds:List (DataW H),ds.length=fn.params.toList.length->s.fn H ds={ results:=[.lit (.bool true)],args:=ds })
   (walk:∀ (W:World) (base:Nat) (args:Array Value) (ds:List (DataW H)) (p:List MemPlace),(∀ (j:Nat) t v,fn.params[j]?=some t->args[j]?=some v->Value.okWide C.prog W .any base t v) ->
     DataW.TrodAll enc C.prog W 0 (fun _=>true) true fn.params.toList args.toList ds p->SX.xK ds<=1048576->laidMetH C.prog laid W->Calls C.prog f args W fun e W'=>e=.returned (.bool true)/\Ext W W') :
   ReturnsInHanded {} C os f .any ((Go.Proofs.YtpndeclljmdjkaaGreatDoor.Rows.OpenSpec.upto s).preRow enc C.prog fn conds false laid) (((Go.Proofs.YtpndeclljmdjkaaGreatDoor.Rows.OpenSpec.upto s).at F).post enc C.prog fn false true false false):=by
 refine returnsInHanded_of_row (C:=C) (s:=Go.Proofs.YtpndeclljmdjkaaGreatDoor.Rows.OpenSpec.upto s) own started noInit hfn witness ?_;intro W base args ds gs before hval hW _ hk _ hL _ _;have hW':=hW;obtain⟨p,q,hA,hV,rfl,_,_⟩:=hW;rw [show(Go.Proofs.YtpndeclljmdjkaaGreatDoor.Rows.OpenSpec.upto s).vars=[]from hvars]at hV;obtain⟨rfl,rfl⟩:=trodVars_none hV
 have hb:SX.xK ds<=1048576:=by
   have:=of_decide_eq_true (hk _ rfl);rw [List.append_nil]at this;exact this
 have hlen:=trodAll_length _ _ _ _ hA;have hlt:∀ x∈p,x.block<W.heap.size:=fun x hx=>by simpa using hW'.lt x (List.mem_append.2 (.inl hx))
 refine(walk W base args ds p hval hA hb hL).mono fun e W' ⟨he,hx⟩=>?_
 show ∃ v,e=.returned v/\s.post enc C.prog fn false true false false W args v W';refine⟨_,he,ds,[],_,[],p,[],hW',?_,?_,?_,hx.frame _,fun h=>by cases h⟩
 ·rw [List.append_nil,hs ds hlen,hres];exact trodAll_mk1 (shut_bool htb _)
 ·rw [List.append_nil,hs ds hlen];exact yQ hlaid hx _ _ _ _ hread hA hlt
 ·rw [List.append_nil,hs ds hlen,hvars];rfl
theorem and_t {a b:Bool} (h:a=true) (k:b=true):(a&&b)=true:=by rw [h,k];rfl
theorem any_no {α:Type} {a:Array α} {p:α->Bool} (h:∀ i:Nat,(a[i]?).any p=false):a.any p=false:=Array.any_eq_false.2 fun i hi=>by
 have:=h i;rw [Array.getElem?_eq_getElem hi]at this;simpa using this
theorem goes_no {P:Program} (h:∀ i:Nat,(P.funcs[i]?).any Func.goes=false) (f:FuncId):P.goes f=false:=by
 unfold Program.goes;have h1:((P.closure f).any fun g=>(P.funcs[g]?).any Func.goes)=false:=List.any_eq_false.2 fun g _=>by rw [h g];exact Bool.false_ne_true
 rw [h1,any_no h,Bool.and_false];rfl
theorem Ke {c:OpenClaim} {P:Program} (hs:c.start=.entering) (h:∀ i:Nat,(P.funcs[i]?).any Func.goes=false):false=c.goesBy P:=by
 unfold OpenClaim.goesBy Program.goesAt Program.goesFrom;rw [hs]
 have e:(P.funcNamed c.func).any P.goes=false:=by
   cases P.funcNamed c.func with
   |none=>rfl
   |some f=>exact goes_no h f
 rw [e];rfl
theorem goes_in {P:Program} {n:Nat} (hn:P.funcs.size<=n) (h:∀ i:Nat,i<n->(P.funcs[i]?).any Func.goes=false) (i:Nat):(P.funcs[i]?).any Func.goes=false:=by
 rcases Nat.lt_or_ge i n with q|q
 ·exact h i q
 ·rw [Array.getElem?_eq_none au]
  rfl
theorem iD {P:Program} {a i:Nat} (h:((List.range 50).all fun i=>!(P.funcs[i+a]?).any Func.goes)=true) (h1:a<=i) (h2:i<a+50):(P.funcs[i]?).any Func.goes=false:=by
 have:=List.all_eq_true.1 h (i-a) (List.mem_range.2 au)
 rw [show i-a+a=i by omega]at this
 simpa using this
end Go.XK
namespace Go.SX
open List renaming getD_eq_getElem?_getD -> fI,length_append -> dL
open List renaming length -> ln
open Go.XK Go.RowKit
theorem Sg:∀ {ns:List Nat} {i:Nat} (h:i<ns.length),ns[i]<=ns.sum
 |_::r,0,_=>by simp
 |x::r,i+1,h=>by
   have:=Sg (ns:=r) (i:=i) (by simpa using h)
   simp only [List.getElem_cons_succ,List.sum_cons];omega
theorem PZ {α:Type} (f:α->Nat):∀ (l:List α) (ns:List Nat),ns.length=l.length->(∀ (i:Nat) (h:i<l.length) (h':i<ns.length),f l[i]<=ns[i])->(l.map f).sum<=ns.sum
 |[],_,_,_=>Nat.zero_le _
 |x::r,[],h,_=>by simp at h
 |x::r,n::ns,h,k=>by
   have h0:=k 0 (by simp) (by simp)
   have h1:=PZ f r ns (by simpa using h) fun i a b=>k (i+1) (by simpa using a) (by simpa using b)
   simp only [List.getElem_cons_zero]at h0;simp only [List.map_cons,List.sum_cons];omega
theorem QL.get {c:Nat} {Q:ah c->Nat->Prop} {l:Li c} {N:Nat} (h:QL Q l N) {i:Nat} (hi:i<lT c l):∃ n,Q (gt c l i) n/\n+1<=N:=by
 obtain⟨ns,h1,h2,h3⟩:=h;have hi:i<l.length:=hi;have hn:i<ns.length:=by omega
 have:=Sg hn
 have e:gt c l i=l[i]:=by
   show l.getD i _=_;rw [fI,List.getElem?_eq_getElem hi];rfl
 rw [e];exact⟨_,(h3 i hi hn).1,au⟩
theorem QL.len {α:Type} {Q:α->Nat->Prop} {l:List α} {N:Nat} (h:QL Q l N):l.length+1<=N:=by
 obtain⟨ns,h1,h2,h3⟩:=h;have:=PZ (fun _=>1) l ns h1 fun i a b=>(h3 i a b).2
 simp only [List.map_const',List.sum_replicate_nat,Nat.mul_one]at this;omega
theorem QS.s20 {s:ByteArray} {n N:Nat} (h:QS s n) (hn:n<=N) (hN:N<=1048576):jT s:=by unfold QS at h;unfold jT;omega
theorem uok_of {u:fZ} {l:bX} {N M:Nat} (h:IG u N) (k:xP l M) (hN:N<=1048576) (hM:M<=1048576):UOk u.Name u.Nodes u.Imports u.lQ u.lZ u.oQ u.Needs u.fJ u.Changes l.Nodes l.Slots l.kY:=by
 obtain⟨hname,ZV,himps,hoffs,hins,hlas,hneeds,_,hvers,hchg⟩:=h;obtain⟨kn,ks,kt⟩:=k;have nd:∀ k,k<lT 19 u.Nodes->∃ n,Du (nN u.Nodes k) n/\n+1<=N:=fun k hk=>QL.get (c:=19) ZV hk
 have le:∀ {α:Type} {Q:α->Nat->Prop} {l:List α} {n K:Nat},QL Q l n->n<=K->K<=1048576->l.length<=1048575:=fun q a b=>by have:=q.len;omega
 refine⟨hname.s20 (Nat.le_refl _) hN,⟨le ZV (Nat.le_refl _) hN,?_,?_,?_,?_,?_,?_,?_,?_⟩,fun k hk=>?_,fun k hk=>?_,fun k hk=>?_,fun k hk=>?_,fun k hk=>?_,fun k hk=>?_,fun k hk=>?_,fun k hk=>?_,fun k hk=>?_,fun k hk=>?_,⟨?_,fun k hk=>?_⟩⟩
 ·exact Nat.le_succ_of_le (le himps (Nat.le_refl _) hN)
 ·exact Nat.le_succ_of_le (le hoffs (Nat.le_refl _) hN)
 ·exact Nat.le_succ_of_le (le hins (Nat.le_refl _) hN)
 ·exact Nat.le_succ_of_le (le hlas (Nat.le_refl _) hN)
 ·exact Nat.le_succ_of_le (le hchg (Nat.le_refl _) hN)
 ·exact Nat.le_succ_of_le (le kn (Nat.le_refl _) hM)
 ·exact Nat.le_succ_of_le (le ks (Nat.le_refl _) hM)
 ·exact Nat.le_succ_of_le (le kt (Nat.le_refl _) hM)
 ·obtain⟨n,q,r⟩:=nd k hk;exact⟨q.1.s20 au hN,q.2.1.s20 au hN,q.2.2.1.s20 au hN⟩
 ·obtain⟨n,q,r⟩:=nd k hk;exact Nat.le_succ_of_le (le q.2.2.2.1 au hN)
 ·obtain⟨n,q,r⟩:=nd k hk;refine⟨Nat.le_succ_of_le (le q.2.2.2.2.1 au hN),fun j hj=>?_⟩
  obtain⟨n2,q2,r2⟩:=QL.get (c:=9) q.2.2.2.2.1 hj;exact QS.s20 q2 au hN
 ·obtain⟨n,q,r⟩:=nd k hk;refine⟨Nat.le_succ_of_le (le q.2.2.2.2.2.1 au hN),fun j hj=>?_⟩
  obtain⟨n2,q2,r2⟩:=QL.get (c:=11) q.2.2.2.2.2.1 hj;exact QS.s20 q2 au hN
 ·obtain⟨n,q,r⟩:=nd k hk;refine⟨Nat.le_succ_of_le (le q.2.2.2.2.2.2.1 au hN),fun j hj=>?_⟩
  obtain⟨n2,q2,r2⟩:=QL.get (c:=13) q.2.2.2.2.2.2.1 hj;exact⟨QS.s20 q2.1 au hN,QS.s20 q2.2 au hN⟩
 ·obtain⟨n,q,r⟩:=nd k hk;refine⟨Nat.le_succ_of_le (le q.2.2.2.2.2.2.2.1 au hN),fun j hj=>?_⟩
  obtain⟨n2,q2,r2⟩:=QL.get (c:=15) q.2.2.2.2.2.2.2.1 hj;exact QS.s20 q2.1 au hN
 ·obtain⟨n,q,r⟩:=nd k hk;exact Nat.le_succ_of_le (le q.2.2.2.2.2.2.2.2 au hN)
 ·obtain⟨n,q,r⟩:=QL.get (c:=21) himps hk;exact⟨QS.s20 q.1 au hN,QS.s20 q.2 au hN⟩
 ·obtain⟨n,q,r⟩:=QL.get (c:=23) hoffs hk;exact⟨QS.s20 q.1 au hN,QS.s20 q.2 au hN⟩
 ·obtain⟨n,q,r⟩:=QL.get (c:=1) hneeds hk;exact QS.s20 q au hN
 ·obtain⟨ns,h1,h2,h3⟩:=hvers
  have:=PZ (fun x:iQ=>x.Parents.length) u.fJ ns h1 fun i a b=>by
    have h4:=(h3 i a b).1.2.len;show u.fJ[i].Parents.length<=ns[i];omega
  have e:Np u.fJ 0=(u.fJ.map fun x:iQ=>x.Parents.length).sum:=rfl
  rw [e];omega
 ·obtain⟨n,q,r⟩:=QL.get (c:=27) hvers hk;exact Int.le_trans (QS.s20 q.1 au hN) (by decide)
end Go.SX
