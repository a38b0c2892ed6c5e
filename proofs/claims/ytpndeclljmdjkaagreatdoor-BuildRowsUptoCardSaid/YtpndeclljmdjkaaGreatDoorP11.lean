/- A part of the proof (texts PSrt, SrtS). -/
import Derived.Test.YtpndeclljmdjkaaGreatDoorP08
import Derived.Test.YtpndeclljmdjkaaGreatDoorP10
set_option linter.all false
set_option maxRecDepth 100000
namespace Go.SX
open Go.XK Go.RowKit
section
variable {α:Type}
def ixd (d:α) (l:List α) (i:Int):α:=l.getD i.toNat d
def swp (d:α) (l:List α) (i j:Int):List α:=(l.set i.toNat (ixd d l j)).set j.toNat (ixd d l i)
theorem Sd (d:α) (l:List α) (i j:Int):(swp d l i j).length=l.length:=by unfold swp;rw [List.length_set,List.length_set]
theorem Al {d:α} {l:List α} {i j:Int} (hi:0<=i/\i<l.length) (hj:0<=j/\j<l.length):(swp d l i j).Perm l:=by
 have h1:i.toNat<l.length:=by omega
 have h2:j.toNat<l.length:=by omega
 have e1:ixd d l i=l[i.toNat]:=by unfold ixd;rw [List.getD_eq_getElem?_getD,List.getElem?_eq_getElem h1];rfl
 have e2:ixd d l j=l[j.toNat]:=by unfold ixd;rw [List.getD_eq_getElem?_getD,List.getElem?_eq_getElem h2];rfl
 unfold swp;rw [e1,e2];exact List.set_set_perm h1 h2
def Je (d:α) (key:α->Int):Nat->List α->Int->List α
 |0,l,_=>l
 |k+1,l,j=>if uf (key (ixd d l j)) (key (ixd d l (j-1)))<0 then Je d key k (swp d l j (j-1)) (j-1)else l
theorem J2 {d:α} {key:α->Int}:∀ (k:Nat) {l:List α} {j:Int},(k:Int)<=j->j<l.length->(Je d key k l j).Perm l
 |0,_,_,_,_=>.refl _
 |k+1,l,j,h1,h2=>by
   unfold Je;split
   ·have hp:=Al (d:=d) (l:=l) (i:=j) (j:=j-1) ⟨au,h2⟩ ⟨au,au⟩
    exact(J2 k au (by rw [Sd];omega)).trans hp
   ·exact .refl _
def Ou (d:α) (key:α->Int) (l:List α) (a:Int):Nat->List α
 |0=>l
 |n+1=>Je d key (n+1) (Ou d key l a n) (a+1+n)
theorem CW {d:α} {key:α->Int} {l:List α} {a:Int} (ha:0<=a):∀ (n:Nat),a+n<l.length->(Ou d key l a n).Perm l
 |0,_=>.refl _
 |n+1,h=>by
   have ih:=CW (d:=d) (key:=key) (l:=l) ha n au
   unfold Ou;exact(J2 (n+1) au (by rw [ih.length_eq];omega)).trans ih
def Eb (d:α) (key:α->Int) (l:List α) (a b:Int):List α:=Ou d key l a (b-a-1).toNat
theorem JZ {d:α} {key:α->Int} {l:List α} {a b:Int} (ha:0<=a) (hb:b<=l.length):(Eb d key l a b).Perm l:=by
 unfold Eb
 by_cases h:a+1<b
 ·exact CW ha _ au
 ·rw [show(b-a-1).toNat=0 by omega]
  exact .refl _
end
theorem ins_q {p q:Prop} (hp:p) (h:¬p\/¬q):¬q:=fun hq=>h.elim (fun x=>x hp) (fun x=>x hq)
theorem eqT_of {c:Nat} {l l':Li c} (h:l=l'):eqL c c l l':=h▸Dh c l
def sG (x:Int):Int:=IntKind.i64.wrap (iI (UInt64.ofInt x) ((UInt64.ofNat 1).toNat:Int)).toNat
theorem Td {x:Int} (h0:0<=x) (h1:x<4611686018427387904):sG x=x / 2:=by
 obtain⟨n,rfl⟩:=Int.eq_ofNat_of_zero_le h0
 have e1:(UInt64.ofInt (n:Int)).toNat=n:=by
   have:=ofInt64 (n:Int);omega
 have e2:(iI (UInt64.ofInt (n:Int)) ((UInt64.ofNat 1).toNat:Int)).toNat=n / 2:=by
   show(iI (UInt64.ofInt (n:Int)) 1).toNat=n / 2;unfold iI;rw [e1];show(UInt64.ofNat (n >>> 1)).toNat=n / 2;rw [Nat.shiftRight_eq_div_pow];exact UInt64.toNat_ofNat_of_lt' (by show n / 2 ^ 1<2 ^ 64;omega)
 unfold sG;rw [e2];rw [kZ (by exact⟨au,au⟩)]
 omega
theorem GQ {x i j:Int} (hx:x=i+j) (h0:0<=i) (h1:i<j) (h2:j<2305843009213693952):i<=sG x/\sG x<j:=by
 rw [Td au au]
 omega
set_option maxHeartbeats 40000000
section
variable (c f T:Nat) (cl:SV) (ky:ah c->Int)
@[reducible] def RPm (l:Li c) (s:SV) (H:List (Nat×HB)) (n:Nat):Prop:=s=.jm []/\(∃ t,List.Perm t l/\List.length t=List.length l/\H=[(0,.arr T none c t)])/\n=1
@[reducible] def RSt (l:Li c) (s:SV) (H:List (Nat×HB)) (n:Nat):Prop:=s=.jm []/\(∃ t,List.Perm t l/\List.length t=List.length l/\((List.length l:Int)<20->t=Eb (rE c) ky l 0 (List.length l:Nat))/\H=[(0,.arr T none c t)])/\n=1
def RB:Prop:=∀ (z:Option Bool) (l:Li c) (a b:Int),0<=a->a<=b->b<=(List.length l:Nat)->List.length l<=140737488355328->HC E0 f 1 [.bT 0,.i a,.i b,cl] [(0,.arr T z c l)] fun s H n=>s=.jm []/\H=[(0,.arr T none c (Eb (rE c) ky l a b))]/\n=1
def Rz:Prop:=∀ (z:Option Bool) (l:Li c) (a b n:Int),0<=a->0<=b->0<=n->a+n<=(List.length l:Nat)->b+n<=(List.length l:Nat)->List.length l<=140737488355328->HC E0 f 1 [.bT 0,.i a,.i b,.i n,cl] [(0,.arr T z c l)] (RPm c T l)
def Ad:Prop:=∀ (z:Option Bool) (l:Li c) (a m b:Int),0<=a->a<m->m<b->b<=(List.length l:Nat)->List.length l<=140737488355328->HC E0 f 1 [.bT 0,.i a,.i m,.i b,cl] [(0,.arr T z c l)] (RPm c T l)
def QSyN (N:Nat):Prop:=∀ (z:Option Bool) (l:Li c) (a m b:Int),0<=a->a<m->m<b->b<=(List.length l:Nat)->List.length l<=140737488355328->b-a<=N->HC E0 f 1 [.bT 0,.i a,.i m,.i b,cl] [(0,.arr T z c l)] (RPm c T l)
def RA:Prop:=∀ (z:Option Bool) (l:Li c) (n:Int),n=(List.length l:Nat)->List.length l<=1099511627776->HC E0 f 1 [.bT 0,.i n,cl] [(0,.arr T z c l)] (RSt c T ky l)
def BA:Prop:=∀ (z:Option Bool) (l:Li c),List.length l<=1099511627776->HC E0 f 1 [.bT 0,cl] [(0,.arr T z c l)] (RSt c T ky l)
theorem uy {c f T:Nat} {cl:SV} (h:∀ N,QSyN c f T cl N->QSyN c f T cl (N+1)):Ad c f T cl:=by
 have k:∀ N,QSyN c f T cl N:=fun N=>by
   induction N with
   |zero=>intro z l a m b ha ham hmb hb hl hN;exfalso;omega
   |succ N ih=>exact h N ih
 intro z l a m b ha ham hmb hb hl;exact k (b-a).toNat z l a m b ha ham hmb hb hl au
end
theorem FJ {P:Prop} (h:P:=by
   intro z l a b ha hab hb hl;refine dG (DB:=[FS]) (IL:=[]) (WL:=[]) (fn:=fnI) rfl rfl rfl rfl (by unfold dA;kernel_rfl) (fun hk=>?_)
   simp only [know]at hk
   repeat' first|refine dM ?_|apply B_<;>intro h hc|apply I_;intro h
   all_goals conv=>whnf
   refine Or.inr (Or.inr ⟨[],[8,22,23,24,25,26,27,28,29,30,31,32,33],[],[0],[0,1,2,3],[],?_⟩);conv=>whnf
   refine⟨fun(s:Int×Unit) (t:List (X)×Unit)=>a+1<=s.1/\(s.1<=b\/s.1=a+1)/\t.1=Ou Z ky l a (s.1-a-1).toNat,fun(s:Int×Unit) _=>(b-s.1).toNat,?_⟩
   conv=>whnf
   refine eZ.mk ⟨bg,bg,?_⟩ bA ?_
   ·show l=Ou Z ky l a (a+1-a-1).toNat;rw [show(a+1-a-1).toNat=0 by omega]
    rfl
   rintro⟨(i:Int),_⟩ ⟨(t:List (X)),_⟩ ⟨h0,h1,hS⟩
   try dsimp only at h0 h1 hS
   have hP:i<b->List.Perm (α:=X) t l:=fun h=>by rw [hS];exact CW ha _ (by show a+((i-a-1).toNat:Int)<(List.length (α:=X) l:Nat);omega)
   repeat' first|refine dM ?_|apply B_<;>intro h hc|apply I_;intro h
   all_goals conv=>whnf
   ·have hPi:=hP (by assumption)
    have hlt:List.length (α:=X) t=List.length (α:=X) l:=hPi.length_eq;refine Or.inr (Or.inr ⟨[],[9,22,23,24,25,26,27,28,29,30,31,32,33],[],[0],[0,1,2,3,8],[],?_⟩);conv=>whnf
    refine⟨fun(s:Int×Unit) (u:List (X)×Unit)=>a<=s.1/\s.1<=i/\List.length (α:=X) u.1=List.length (α:=X) l/\Je Z ky (s.1-a).toNat u.1 s.1=Je Z ky (i-a).toNat t i,fun(s:Int×Unit) _=>(s.1-a).toNat,?_⟩
    conv=>whnf
    refine eZ.mk ⟨bg,bg,hlt,rfl⟩ bA ?_
    rintro⟨(j:Int),_⟩ ⟨(u:List (X)),_⟩ ⟨g0,g1,gl,gS⟩
    try dsimp only at g0 g1 gl gS
    have oS:∀ (q:Nat) (x:X),a<j->0<=j-1/\j-1<(List.length (α:=X) (List.set (α:=X) u q x):Nat):=fun q x h=>⟨au,by rw [@List.length_set (X) u q x];omega⟩
    repeat' first|(refine w_ ?_;first|(apply aP;focus (exact oS _ _ au))|refine bO bK trivial ?_)|apply B_<;>intro h hc|apply I_;intro h
    all_goals conv=>whnf
    ·refine⟨bg,bg,?_,?_⟩
     ·exact(Sd Z u j (j-1)).trans gl
     ·rw [<- gS];obtain⟨m,hm⟩:∃ m,(j-a).toNat=m+1:=⟨(j-a).toNat-1,au⟩
      rw [hm,Je,if_pos (And.right (a:=a<j) (by assumption)),show(j-1-a).toNat=m by omega]
      rfl
    ·have hS2:u=Je Z ky (i-a).toNat t i:=by
       rw [<- gS]
       by_cases hja:a<j
       ·obtain⟨m,hm⟩:∃ m,(j-a).toNat=m+1:=⟨(j-a).toNat-1,au⟩
        rw [hm,Je,if_neg (ins_q hja (by assumption))]
       ·rw [show(j-a).toNat=0 by omega,Je]
     refine⟨bg,bg,?_⟩
     show u=Ou Z ky l a (i+1-a-1).toNat;obtain⟨m,hm⟩:∃ m,(i-a-1).toNat=m:=⟨_,rfl⟩;rw [show(i+1-a-1).toNat=m+1 by omega,Ou,hS2,hS,hm,show(i-a).toNat=m+1 by omega,show a+1+(m:Int)=i by omega]
   have e:t=Eb Z ky l a b:=by
     rw [hS];unfold Eb;rcases h1 with h1|h1
     ·rw [show i=b by omega]
     ·rw [show(i-a-1).toNat=0 by omega,show(b-a-1).toNat=0 by omega]
   refine⟨[],[],_,_,[],⟨rfl,rfl,rfl⟩,?_⟩
   conv=>whnf
   refine w_ ?_;repeat' (first|((with_reducible apply And.intro)<;>(first|(with_reducible refine iK ?_;apply rfl)|(with_reducible refine eY ?_;apply rfl)|(refine w_ ?_)))|(with_reducible apply trivial)|apply rfl|apply(Or.inl rfl)|apply(Or.inr rfl)|apply(Or.inr (Or.inl rfl))|apply trivial|(apply And.intro<;>(refine w_ ?_)))
   all_goals (first|exact eqT_of e|exact e)):P:=h
theorem FC {P:Prop} (h:P:=by
   intro z l a b n ha hb hn han hbn hl;refine dG (DB:=[]) (IL:=[]) (WL:=[]) (fn:=fnW) rfl rfl rfl rfl (by unfold dA;kernel_rfl) (fun hk=>?_)
   simp only [know]at hk
   repeat' first|refine dM ?_|apply B_<;>intro h hc|apply I_;intro h
   all_goals conv=>whnf
   refine Or.inr (Or.inr ⟨[],[10],[],[0],[0,1,2,3],[],?_⟩);conv=>whnf
   refine⟨fun(s:Int×Unit) (t:List (X)×Unit)=>0<=s.1/\s.1<=n/\List.Perm (α:=X) t.1 l,fun(s:Int×Unit) _=>(n-s.1).toNat,?_⟩
   conv=>whnf
   refine eZ.mk ⟨bg,bg,.refl _⟩ bA ?_
   rintro⟨(k:Int),_⟩ ⟨(t:List (X)),_⟩ ⟨h0,h1,hP⟩
   try dsimp only at h0 h1 hP
   have hlt:List.length (α:=X) t=List.length (α:=X) l:=hP.length_eq;have oS:∀ (q:Nat) (x:X),k<n->0<=b+k/\b+k<(List.length (α:=X) (List.set (α:=X) t q x):Nat):=fun q x h=>⟨au,by rw [@List.length_set (X) t q x];omega⟩
   repeat' first|(refine w_ ?_;first|(apply aP;focus (exact oS _ _ au))|refine bO bK trivial ?_)|apply B_<;>intro h hc|apply I_;intro h
   all_goals conv=>whnf
   ·refine⟨bg,bg,?_⟩
    exact List.Perm.trans (Al (d:=Z) (l:=t) (i:=a+k) (j:=b+k) ⟨au,by show a+k<(List.length (α:=X) t:Nat);omega⟩ ⟨au,by show b+k<(List.length (α:=X) t:Nat);omega⟩) hP
   refine⟨[],[],_,_,[],⟨rfl,⟨_,hP,List.Perm.length_eq hP,rfl⟩,rfl⟩,?_⟩
   conv=>whnf
   exact bA):P:=h
theorem FI {P:Prop} (h:P:=by
   intro z l a m b ha ham hmb hb hl;refine dG (DB:=[]) (IL:=[]) (WL:=[]) (fn:=fnR) rfl rfl rfl rfl (by unfold dA;kernel_rfl) (fun hk=>?_)
   simp only [know]at hk
   repeat' first|refine dM ?_|apply B_<;>intro h hc|apply I_;intro h
   all_goals conv=>whnf
   refine Or.inr (Or.inr ⟨[],[10,11],[],[0],[0,2,4],[],?_⟩);conv=>whnf
   refine⟨fun(s:Int×Int×Unit) (t:List (X)×Unit)=>0<s.1/\s.1<=m-a/\0<s.2.1/\s.2.1<=b-m/\List.Perm (α:=X) t.1 l,fun(s:Int×Int×Unit) _=>(s.1+s.2.1).toNat,?_⟩
   conv=>whnf
   refine eZ.mk ⟨bg,bg,bg,bg,.refl _⟩ bA ?_
   rintro⟨(i:Int),(j:Int),_⟩ ⟨(t:List (X)),_⟩ ⟨h0,h1,h2,h3,hP⟩
   try dsimp only at h0 h1 h2 h3 hP
   have hlt:List.length (α:=X) t=List.length (α:=X) l:=hP.length_eq;have hl2:List.length (α:=X) t<=140737488355328:=by omega
   repeat' first|(refine w_ ?_;first|refine bO bK trivial ?_|(refine Or.inl ⟨_,_,_,_,[0],zV _ _ _ _ _ au au au au au hl2,rfl,rfl,rfl,rfl,rfl,(aK trivial),?_⟩;(rintro _ _ _ ⟨rfl,⟨u,hu,Nb,rfl⟩,rfl⟩;refine aK (aK ?_))))|apply B_<;>intro h hc|apply I_;intro h
   all_goals conv=>whnf
   ·refine⟨bg,bg,bg,bg,List.Perm.trans hu hP⟩
   ·refine⟨bg,bg,bg,bg,List.Perm.trans hu hP⟩
   refine⟨[],[],_,_,[],⟨rfl,⟨_,(List.Perm.trans hu hP),List.Perm.length_eq (List.Perm.trans hu hP),rfl⟩,rfl⟩,?_⟩
   conv=>whnf
   exact bA):P:=h
theorem FB {P:Prop} (h:P:=by
   intro ih z l a m b ha ham hmb hb hl hN;refine dG (DB:=[FS]) (IL:=[]) (WL:=[]) (fn:=fnM) rfl rfl rfl rfl (by unfold dA;kernel_rfl) (fun hk=>?_)
   simp only [know]at hk;have hAB:0<=a+b/\a+b<4611686018427387904:=by omega
   have hMM:=GQ (x:=a+b) (i:=a) (j:=b) rfl ha au au
   have hM2:=Td (x:=a+b) au au
   unfold sG at hMM hM2
   repeat' first|refine dM ?_|apply B_<;>intro h hc|apply I_;intro h
   all_goals conv=>whnf
   ·refine Or.inr (Or.inr ⟨[],[10,11],[],[],[0,1,4],[],?_⟩);conv=>whnf
    refine⟨fun(s:Int×Int×Unit) (_:Unit)=>m<=s.1/\s.1<=s.2.1/\s.2.1<=b,fun(s:Int×Int×Unit) _=>(s.2.1-s.1).toNat,?_⟩
    conv=>whnf
    refine eZ.mk ⟨bg,bg,bg⟩ bA ?_
    rintro⟨(i:Int),(j:Int),_⟩ _ ⟨h0,h1,h2⟩
    try dsimp only at h0 h1 h2
    have hM:=GQ (x:=i+j) (i:=i) (j:=j) rfl au
    refine gK fun K hK=>?_
    by_cases hij:i<j
    ·have hdec:=decide_eq_true hij;replace hM:=hM hij au
     have o1:0<=sG (i+j)/\sG (i+j)<(List.length (α:=X) l:Nat):=by omega
     unfold sG at hM o1
     repeat' first|(refine jU ?_;first|(apply aP;focus (exact o1))|refine bO bK trivial ?_)|apply B_<;>intro h hc|apply I_;intro h
     all_goals refine iw ?_
     all_goals (refine⟨bg,bg,bg⟩;done)
    ·have hdec:=decide_eq_false hij
     repeat' first|refine iF ?_|apply B_<;>intro h hc|apply I_;intro h
     all_goals refine iw ?_
     refine Or.inr (Or.inr ⟨[],[13],[],[0],[0,10],[],?_⟩);conv=>whnf
     refine⟨fun(s:Int×Unit) (t:List (X)×Unit)=>a<=s.1/\(s.1<=i-1\/s.1=a)/\List.Perm (α:=X) t.1 l,fun(s:Int×Unit) _=>(i-s.1).toNat,?_⟩
     conv=>whnf
     refine eZ.mk ⟨bg,bg,.refl _⟩ bA ?_
     rintro⟨(k:Int),_⟩ ⟨(t:List (X)),_⟩ ⟨g0,g1,hP⟩
     try dsimp only at g0 g1 hP
     have hlt:List.length (α:=X) t=List.length (α:=X) l:=hP.length_eq;have oS:∀ (q:Nat) (x:X),k<i-1->0<=(k+1)/\(k+1)<(List.length (α:=X) (List.set (α:=X) t q x):Nat):=fun q x h=>⟨au,by rw [@List.length_set (X) t q x];omega⟩
     refine gK fun K hK=>?_
     repeat' first|(refine jU ?_;first|(apply aP;focus (exact oS _ _ au))|refine bO bK trivial ?_)|apply B_<;>intro h hc|apply I_;intro h
     all_goals refine iw ?_
     ·refine⟨bg,bg,?_⟩
      exact List.Perm.trans (Al (d:=Z) (l:=t) (i:=k) (j:=(k+1)) ⟨au,by show k<(List.length (α:=X) t:Nat);omega⟩ ⟨au,by show(k+1)<(List.length (α:=X) t:Nat);omega⟩) hP
     refine⟨[],[],_,_,[],⟨rfl,⟨_,hP,List.Perm.length_eq hP,rfl⟩,rfl⟩,?_⟩
     conv=>whnf
     exact bA
   ·refine Or.inr (Or.inr ⟨[],[14,15],[],[],[0,2,4],[],?_⟩);conv=>whnf
    refine⟨fun(s:Int×Int×Unit) (_:Unit)=>a<=s.1/\s.1<=s.2.1/\s.2.1<=m,fun(s:Int×Int×Unit) _=>(s.2.1-s.1).toNat,?_⟩
    conv=>whnf
    refine eZ.mk ⟨bg,bg,bg⟩ bA ?_
    rintro⟨(i:Int),(j:Int),_⟩ _ ⟨h0,h1,h2⟩
    try dsimp only at h0 h1 h2
    have hM:=GQ (x:=i+j) (i:=i) (j:=j) rfl au
    refine gK fun K hK=>?_
    by_cases hij:i<j
    ·have hdec:=decide_eq_true hij;replace hM:=hM hij au
     have o1:0<=sG (i+j)/\sG (i+j)<(List.length (α:=X) l:Nat):=by omega
     unfold sG at hM o1
     repeat' first|(refine jU ?_;first|(apply aP;focus (exact o1))|refine bO bK trivial ?_)|apply B_<;>intro h hc|apply I_;intro h
     all_goals refine iw ?_
     all_goals (refine⟨bg,bg,bg⟩;done)
    ·have hdec:=decide_eq_false hij
     repeat' first|refine iF ?_|apply B_<;>intro h hc|apply I_;intro h
     all_goals refine iw ?_
     refine Or.inr (Or.inr ⟨[],[17],[],[0],[0,14],[],?_⟩);conv=>whnf
     refine⟨fun(s:Int×Unit) (t:List (X)×Unit)=>s.1<=m/\(i<=s.1)/\List.Perm (α:=X) t.1 l,fun(s:Int×Unit) _=>(s.1-i).toNat,?_⟩
     conv=>whnf
     refine eZ.mk ⟨bg,bg,.refl _⟩ bA ?_
     rintro⟨(k:Int),_⟩ ⟨(t:List (X)),_⟩ ⟨g0,g1,hP⟩
     try dsimp only at g0 g1 hP
     have hlt:List.length (α:=X) t=List.length (α:=X) l:=hP.length_eq;have oS:∀ (q:Nat) (x:X),i<k->0<=(k-1)/\(k-1)<(List.length (α:=X) (List.set (α:=X) t q x):Nat):=fun q x h=>⟨au,by rw [@List.length_set (X) t q x];omega⟩
     refine gK fun K hK=>?_
     repeat' first|(refine jU ?_;first|(apply aP;focus (exact oS _ _ au))|refine bO bK trivial ?_)|apply B_<;>intro h hc|apply I_;intro h
     all_goals refine iw ?_
     ·refine⟨bg,bg,?_⟩
      exact List.Perm.trans (Al (d:=Z) (l:=t) (i:=k) (j:=(k-1)) ⟨au,by show k<(List.length (α:=X) t:Nat);omega⟩ ⟨au,by show(k-1)<(List.length (α:=X) t:Nat);omega⟩) hP
     refine⟨[],[],_,_,[],⟨rfl,⟨_,hP,List.Perm.length_eq hP,rfl⟩,rfl⟩,?_⟩
     conv=>whnf
     exact bA
   ·generalize hU:IntKind.i64.wrap ((iI (UInt64.ofInt (a+b)) ((UInt64.ofNat 1).toNat:Int)).toNat:Int)=M at *;refine Or.inr (Or.inr ⟨[],[20,21],[],[],[0,1,2,3,4,18,19,22,182,183,184,196,197,198,210,211,212],[],?_⟩);conv=>whnf
    refine⟨fun(s:Int×Int×Unit) (_:Unit)=>M+m-b<=s.1/\s.1<=s.2.1/\s.2.1<=M,fun(s:Int×Int×Unit) _=>(s.2.1-s.1).toNat,?_⟩
    conv=>whnf
    refine eZ.mk ⟨bg,bg,bg⟩ bA ?_
    rintro⟨(i:Int),(j:Int),_⟩ _ ⟨h0,h1,h2⟩
    try dsimp only at h0 h1 h2
    have hM:=GQ (x:=i+j) (i:=i) (j:=j) rfl au
    refine gK fun K hK=>?_
    by_cases hij:i<j
    ·have hdec:=decide_eq_true hij;replace hM:=hM hij au
     have o1:0<=sG (i+j)/\sG (i+j)<(List.length (α:=X) l:Nat):=by omega
     have o2:0<=M+m-1-sG (i+j)/\M+m-1-sG (i+j)<(List.length (α:=X) l:Nat):=by omega
     unfold sG at hM o1 o2
     repeat' first|(refine jU ?_;first|(apply aP;focus (first|exact o1|exact o2))|refine bO bK trivial ?_)|apply B_<;>intro h hc|apply I_;intro h
     all_goals refine iw ?_
     all_goals (refine⟨bg,bg,bg⟩;done)
    ·have hdec:=decide_eq_false hij
     repeat' first|(refine jU ?_;first|refine bO bK trivial ?_|(refine Or.inl ⟨_,_,_,_,[0],wZ _ _ _ _ _ au au au au au,rfl,rfl,rfl,rfl,rfl,(aK trivial),?_⟩;(rintro _ _ _ ⟨rfl,⟨u,hu,Nb,rfl⟩,rfl⟩;refine aK (aK ?_)))|(refine Or.inl ⟨_,_,_,_,[0],ih _ _ _ _ _ au au au au au au,rfl,rfl,rfl,rfl,rfl,(aK trivial),?_⟩;(rintro _ _ _ ⟨rfl,⟨u,hu,Nb,rfl⟩,rfl⟩;refine aK (aK ?_))))|apply B_<;>intro h hc|apply I_;intro h
     all_goals refine iw ?_
     rotate_right
     ·refine⟨[],[],_,_,[],⟨rfl,⟨l,.refl _,rfl,rfl⟩,rfl⟩,?_⟩
      conv=>whnf
      exact bA
     all_goals (refine⟨[],[],_,_,[],⟨rfl,⟨u,pc_,List.Perm.length_eq pc_,rfl⟩,rfl⟩,?_⟩;(conv=>whnf);exact bA)
   ·generalize hU:IntKind.i64.wrap ((iI (UInt64.ofInt (a+b)) ((UInt64.ofNat 1).toNat:Int)).toNat:Int)=M at *;refine Or.inr (Or.inr ⟨[],[20,21],[],[],[0,1,2,3,4,18,19,22,182,183,184,196,197,198,210,211,212],[],?_⟩);conv=>whnf
    refine⟨fun(s:Int×Int×Unit) (_:Unit)=>a<=s.1/\s.1<=s.2.1/\s.2.1<=m,fun(s:Int×Int×Unit) _=>(s.2.1-s.1).toNat,?_⟩
    conv=>whnf
    refine eZ.mk ⟨bg,bg,bg⟩ bA ?_
    rintro⟨(i:Int),(j:Int),_⟩ _ ⟨h0,h1,h2⟩
    try dsimp only at h0 h1 h2
    have hM:=GQ (x:=i+j) (i:=i) (j:=j) rfl au
    refine gK fun K hK=>?_
    by_cases hij:i<j
    ·have hdec:=decide_eq_true hij;replace hM:=hM hij au
     have o1:0<=sG (i+j)/\sG (i+j)<(List.length (α:=X) l:Nat):=by omega
     have o2:0<=M+m-1-sG (i+j)/\M+m-1-sG (i+j)<(List.length (α:=X) l:Nat):=by omega
     unfold sG at hM o1 o2
     repeat' first|(refine jU ?_;first|(apply aP;focus (first|exact o1|exact o2))|refine bO bK trivial ?_)|apply B_<;>intro h hc|apply I_;intro h
     all_goals refine iw ?_
     all_goals (refine⟨bg,bg,bg⟩;done)
    ·have hdec:=decide_eq_false hij
     repeat' first|(refine jU ?_;first|refine bO bK trivial ?_|(refine Or.inl ⟨_,_,_,_,[0],wZ _ _ _ _ _ au au au au au,rfl,rfl,rfl,rfl,rfl,(aK trivial),?_⟩;(rintro _ _ _ ⟨rfl,⟨u,hu,Nb,rfl⟩,rfl⟩;refine aK (aK ?_)))|(refine Or.inl ⟨_,_,_,_,[0],ih _ _ _ _ _ au au au au au au,rfl,rfl,rfl,rfl,rfl,(aK trivial),?_⟩;(rintro _ _ _ ⟨rfl,⟨u,hu,Nb,rfl⟩,rfl⟩;refine aK (aK ?_))))|apply B_<;>intro h hc|apply I_;intro h
     all_goals refine iw ?_
     rotate_right
     ·refine⟨[],[],_,_,[],⟨rfl,⟨l,.refl _,rfl,rfl⟩,rfl⟩,?_⟩
      conv=>whnf
      exact bA
     all_goals (refine⟨[],[],_,_,[],⟨rfl,⟨u,pc_,List.Perm.length_eq pc_,rfl⟩,rfl⟩,?_⟩;(conv=>whnf);exact bA)):P:=h
theorem FD {P:Prop} (h:P:=by
   intro z l n hn hl;refine dG (DB:=[]) (IL:=[]) (WL:=[]) (fn:=fnT) rfl rfl rfl rfl (by unfold dA;kernel_rfl) (fun hk=>?_)
   simp only [know]at hk
   repeat' first|refine dM ?_|apply B_<;>intro h hc|apply I_;intro h
   all_goals conv=>whnf
   refine Or.inr (Or.inr ⟨[],[7,8],[],[0],[0,1,2,6],[],?_⟩);conv=>whnf
   refine⟨fun(s:Int×Int×Unit) (t:List (X)×Unit)=>s.1=s.2.1-20/\0<=s.1/\s.1<=n/\List.Perm (α:=X) t.1 l/\(n<20->s.1=0/\t.1=l),fun(s:Int×Int×Unit) _=>(n+20-s.2.1).toNat,?_⟩
   conv=>whnf
   refine eZ.mk ⟨bg,bg,bg,.refl _,fun _=>⟨rfl,rfl⟩⟩ bA ?_
   rintro⟨(a:Int),(b:Int),_⟩ ⟨(t:List (X)),_⟩ ⟨h0,h1,h2,hP,hE⟩
   try dsimp only at h0 h1 h2 hP hE
   refine gK fun K hK=>?_
   have hlt:List.length (α:=X) t=List.length (α:=X) l:=hP.length_eq
   by_cases hbn:b<=n
   ·have hdec:=decide_eq_true hbn
    repeat' first|(refine jU ?_;first|refine bO bK trivial ?_|(refine Or.inl ⟨_,_,_,_,[0],xg _ _ _ _ au au au au,rfl,rfl,rfl,rfl,rfl,(aK trivial),?_⟩;(rintro _ _ _ ⟨rfl,rfl,rfl⟩;refine aK (aK ?_))))|apply B_<;>intro h hc|apply I_;intro h
    all_goals refine iw ?_
    ·refine⟨bg,bg,bg,?_,fun h=>?_⟩
     ·exact List.Perm.trans (JZ au (by show b<=(List.length (α:=X) t:Nat);omega)) hP
     ·exfalso;omega
   have hdec:=decide_eq_false hbn
   repeat' first|(refine jU ?_;first|refine bO bK trivial ?_|(refine Or.inl ⟨_,_,_,_,[0],xg _ _ _ _ au au au au,rfl,rfl,rfl,rfl,rfl,(aK trivial),?_⟩;(rintro _ _ _ ⟨rfl,rfl,rfl⟩;refine aK (aK ?_))))|apply B_<;>intro h hc|apply I_;intro h
   all_goals refine iw ?_
   have hP1:List.Perm (α:=X) (Eb Z ky t a n) l:=List.Perm.trans (JZ h1 (by show n<=(List.length (α:=X) t:Nat);omega)) hP
   have hE1:n<20->Eb Z ky t a n=Eb Z ky l 0 (List.length (α:=X) l:Nat):=fun h=>by
     obtain⟨e1,e2⟩:=hE h;rw [e1,e2,hn]
   generalize Eb Z ky t a n=t2 at hP1 hE1;refine Or.inr (Or.inr ⟨[],[6],[],[0],[0,1,2],[],?_⟩);conv=>whnf
   refine⟨fun(s:Int×Unit) (t:List (X)×Unit)=>20<=s.1/\s.1<=2*n+20/\List.Perm (α:=X) t.1 l/\(n<20->t.1=Eb Z ky l 0 (List.length (α:=X) l:Nat)),fun(s:Int×Unit) _=>(n-s.1).toNat,?_⟩
   conv=>whnf
   refine eZ.mk ⟨bg,bg,hP1,hE1⟩ bA ?_
   rintro⟨(c:Int),_⟩ ⟨(t:List (X)),_⟩ ⟨g0,g1,gP,gE⟩
   try dsimp only at g0 g1 gP gE
   refine gK fun K2 hK2=>?_
   have hlt2:List.length (α:=X) t=List.length (α:=X) l:=gP.length_eq
   by_cases hcn:c<n
   ·have hdec2:=decide_eq_true hcn
    repeat' first|refine iF ?_|apply B_<;>intro h hc|apply I_;intro h
    all_goals refine iw ?_
    refine Or.inr (Or.inr ⟨[],[7,8],[],[0],[0,1,2,6],[],?_⟩);conv=>whnf
    refine⟨fun(s:Int×Int×Unit) (t:List (X)×Unit)=>s.1=s.2.1-2*c/\0<=s.1/\s.1<=n/\List.Perm (α:=X) t.1 l,fun(s:Int×Int×Unit) _=>(n+2*c-s.2.1).toNat,?_⟩
    conv=>whnf
    refine eZ.mk ⟨bg,bg,bg,gP⟩ bA ?_
    rintro⟨(a2:Int),(b2:Int),_⟩ ⟨(t3:List (X)),_⟩ ⟨f0,f1,f2,fP⟩
    try dsimp only at f0 f1 f2 fP
    refine gK fun K3 hK3=>?_
    have hlt3:List.length (α:=X) t3=List.length (α:=X) l:=fP.length_eq
    by_cases hbn2:b2<=n
    ·have hdec3:=decide_eq_true hbn2
     repeat' first|(refine jU ?_;first|refine bO bK trivial ?_|(refine Or.inl ⟨_,_,_,_,[0],wY _ _ _ _ _ au au au au au,rfl,rfl,rfl,rfl,rfl,(aK trivial),?_⟩;(rintro _ _ _ ⟨rfl,⟨u,hu,Nb,rfl⟩,rfl⟩;refine aK (aK ?_))))|apply B_<;>intro h hc|apply I_;intro h
     all_goals refine iw ?_
     ·refine⟨bg,bg,bg,List.Perm.trans hu fP⟩
    ·have hdec3:=decide_eq_false hbn2
     repeat' first|(refine jU ?_;first|refine bO bK trivial ?_|(refine Or.inl ⟨_,_,_,_,[0],wY _ _ _ _ _ au au au au au,rfl,rfl,rfl,rfl,rfl,(aK trivial),?_⟩;(rintro _ _ _ ⟨rfl,⟨u,hu,Nb,rfl⟩,rfl⟩;refine aK (aK ?_))))|apply B_<;>intro h hc|apply I_;intro h
     all_goals refine iw ?_
     ·refine⟨bg,bg,List.Perm.trans hu fP,fun h=>?_⟩
      exfalso;omega
     ·refine⟨bg,bg,fP,fun h=>?_⟩
      exfalso;omega
   ·have hdec2:=decide_eq_false hcn
    repeat' first|refine iF ?_|apply B_<;>intro h hc|apply I_;intro h
    all_goals refine iw ?_
    refine⟨[],[],_,_,[],⟨rfl,⟨t,gP,hlt2,fun h=>gE au,rfl⟩,rfl⟩,?_⟩
    conv=>whnf
    exact bA):P:=h
theorem FE {P:Prop} (h:P:=by
   intro z l hl;refine dG (DB:=[]) (IL:=[]) (WL:=[]) (fn:=fnS) rfl rfl rfl rfl (by unfold dA;kernel_rfl) (fun hk=>?_)
   simp only [know]at hk
   repeat' first|(refine w_ ?_;first|refine bO bK trivial ?_|(refine Or.inl ⟨_,_,_,_,[0],zW _ _ _ rfl hl,rfl,rfl,rfl,rfl,rfl,(aK trivial),?_⟩;(rintro _ _ _ ⟨rfl,⟨u,hu,Nb,heu,rfl⟩,rfl⟩;refine aK (aK ?_))))|apply B_<;>intro h hc|apply I_;intro h
   all_goals conv=>whnf
   refine⟨[],[],_,_,[],⟨rfl,⟨u,hu,Nb,heu,rfl⟩,rfl⟩,?_⟩
   conv=>whnf
   exact bA):P:=h
theorem FH {P:Prop} (h:P:=by
   intro z l hl;refine dG (DB:=[]) (IL:=[]) (WL:=[]) (fn:=fnB) rfl rfl rfl rfl (by unfold dA;kernel_rfl) (fun hk=>?_)
   simp only [know]at hk
   repeat' first|(refine w_ ?_;first|refine bO bK trivial ?_|(refine Or.inr ⟨[1],_,_,_,_,[0],zX _ _ hl,rfl,rfl,rfl,rfl,rfl,(aK trivial),?_⟩;(rintro _ _ _ ⟨rfl,⟨u,hu,Nb,heu,rfl⟩,rfl⟩;refine aK (aK ?_))))|apply B_<;>intro h hc|apply I_;intro h
   all_goals conv=>whnf
   refine⟨[],[],_,_,[],⟨rfl,⟨u,hu,Nb,heu,rfl⟩,rfl⟩,?_⟩
   conv=>whnf
   exact bA):P:=h
end Go.SX
