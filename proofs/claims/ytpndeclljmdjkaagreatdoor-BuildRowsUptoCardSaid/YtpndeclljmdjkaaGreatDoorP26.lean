/- A part of the proof (texts B40, GParts, GSearch, GNext, GRev, B42, B43, B44). -/
import Derived.Test.YtpndeclljmdjkaaGreatDoorP10
import Derived.Test.YtpndeclljmdjkaaGreatDoorP14
import Derived.Test.YtpndeclljmdjkaaGreatDoorP18
set_option linter.all false
set_option maxRecDepth 100000
namespace Go.SX
open List renaming replicate -> dJ,getElem?_eq_getElem -> bZ,getD_eq_getElem?_getD -> fI,length_append -> dL
open Int renaming eq_ofNat_of_zero_le -> cO,toNat_natCast -> bP
open List renaming length -> ln
open Go.XK Go.RowKit
set_option maxHeartbeats 40000000
noncomputable section
def I_Ev:je E0:=kC 356 Proofs.Tryz.f356 rfl rfl
def I_Fo:je E0:=kC 402 Proofs.Tryz.f402 rfl rfl
def xM (n:Int) (a:kX):Bool:=bif !(decide (0<=a.From)&&decide (a.From<n))then true else !(decide (0<=a.To)&&decide (a.To<n))
def pK (n:Int) (aA:List kX):Bool:=(decide (0<=n)&&decide (n<=262144))&&!((List.range aA.length).any fun k=>xM n (gt 78 aA k))
def F_AY:Fact E0:=bM 358 Proofs.Tryz.f358 rfl rfl rfl [.g [.i,.i],.p [.k 356 [] [.p [.i]]]] (fun a b n=>.ok (.b (xM n ⟨a,b⟩))) [] [I_Ev] (by
   repeat intro _
   refine dP rfl rfl fun hk=>?_
   repeat' first|refine dM ?_|apply B_<;>intro h hc|apply I_;intro h
   all_goals conv=>whnf
   (repeat (first|exact rfl|refine gW (by assumption) ?_|refine gB (by assumption) ?_|refine jY (by first|assumption|omega) ?_|refine jZ (by first|assumption|omega) ?_)))
def F_DQ:Fact E0:=bM 357 Proofs.Tryz.f357 rfl rfl rfl [.l 78,.k 358 [] [.p [.k 356 [] [.p [.i]]]]] (fun l n=>.ok (.b ((List.range l.length).any (fun k:Nat=>xM n (gt 78 l k))))) [F_AY] [I_Fo] (by
   intro l n;refine dP rfl rfl fun hk=>?_
   simp only [know]at hk
   repeat' first|refine dM ?_|apply B_<;>intro h hc|apply I_;intro h
   all_goals conv=>whnf
   refine Or.inr (Or.inr ⟨[],[8],[],[],[0,1,7],[],?_⟩);conv=>whnf
   refine⟨fun(s:Int×Unit) (_:Unit)=>0<=s.1/\s.1<=l.length/\∀ j:Nat,j<s.1->(fun k:Nat=>xM n (gt 78 l k)) j=false,fun(s:Int×Unit) (_:Unit)=>(l.length-s.1).toNat,?_⟩
   conv=>whnf
   refine eZ.mk ⟨au,au,fun j hj=>absurd hj au⟩ bA ?_
   rintro⟨(k:Int),_⟩ _ ⟨h0,h1,h2⟩
   try dsimp only at h0 h1 h2
   obtain⟨k,rfl⟩:=cO h0
   repeat' first|refine dM ?_|apply B_<;>intro h hc|apply I_;intro h
   all_goals conv=>whnf
   ·(try dsimp only);rw [KC (p:=fun k:Nat=>xM n (gt 78 l k)) (k:=k) au (by first|assumption|exact h|exact hc|exact ntr hc)];simp
   ·(try dsimp only)
    refine⟨au,au,fun j hj=>?_⟩
    rcases Nat.lt_succ_iff_lt_or_eq.1 (show j<k+1 by omega)with hj|rfl
    ·exact h2 j au
    ·first|assumption|(rename_i hx;exact hx)|(rename_i hx _;exact Et hx)|(rename_i hx _ _;exact Et hx)|(rename_i hx _ _ _;exact Et hx)
   ·rw [KD (p:=fun k:Nat=>xM n (gt 78 l k)) fun j hj=>h2 j au];rfl)
def F_AX:Fact E0:=bM 263 Proofs.Tryz.f263 rfl rfl rfl [.i,.l 78] (fun n aA=>.ok (.b (pK n aA))) [F_DQ] [] kI
section
variable {nx:Rows} {n:Nat} {j4:List Int} {root R:Int}
theorem Tz (hx:qp nx n):∀ (k:Nat) {s:GS},Dv nx n j4 root R s->Dv nx n j4 root R (jD nx k s)
 |0,_,h=>h
 |k+1,s,h=>by
   rw [jD]
   cases hs:jv nx s with
   |none=>exact h
   |some s'=>exact Tz hx k (step_ok hx h hs).1
theorem JX (hx:qp nx n):∀ (k:Nat) {s:GS},Dv nx n j4 root R s->yB nx s<=k->jv nx (jD nx k s)=none
 |0,s,h,hk=>by
   show jv nx s=none
   cases hs:jv nx s with
   |none=>rfl
   |some s'=>have:=(step_ok hx h hs).2;omega
 |k+1,s,h,hk=>by
   rw [jD]
   cases hs:jv nx s with
   |none=>exact hs
   |some s'=>exact JX hx k (step_ok hx h hs).1 (by have:=(step_ok hx h hs).2;omega)
theorem UY {s:GS} (h:jv nx s=none):s.calls=[]:=by
 unfold jv at h;split at h
 ·split at h
  ·split at h
   ·cases h
   ·split at h<;>cases h
  ·cases h
 ·rename_i hc;exact List.length_eq_zero_iff.1 au
end
structure VOk (nx:Rows) (n:Nat) (f:FS):Prop where
 ok:FOk nx n f.index f
 st:f.stack=[]
 pl:f.parts.length<=vis f.index
theorem FOk.re {nx:Rows} {n:Nat} {i0:List Int} {f:FS} (h:FOk nx n i0 f):FOk nx n f.index f:=⟨h.li,h.ll,h.lp,h.cnt,h.stk,h.sr,h.p0,h.pn,h.seen,h.nd,h.ile,fun _ _ _ h=>h⟩
theorem find_ok {nx:Rows} {n:Nat} (hx:qp nx n) {f:FS} {root:Int} (h:VOk nx n f) (hr:0<=root/\root<n) (h0:gi f.index root=0) :
   VOk nx n (qU nx f root)/\(∀ v:Int,0<=v->v<n->gi f.index v≠0->gi (qU nx f root).index v≠0)/\gi (qU nx f root).index root≠0:=by
 have hs:=Nv hx h.ok h.st h.pl hr h0;have hk:=Tz hx (yB nx (uD f root)) hs;have hd:=UY (JX hx _ hs (Nat.le_refl _));have e:qU nx f root=(jD nx (yB nx (uD f root)) (uD f root)).f:=rfl;have hk:Dv nx n f.index root (f.count+1) (jD nx (yB nx (uD f root)) (uD f root)):=hk;rw [e];refine⟨⟨hk.toFOk.re,hk.fin hd,?_⟩,hk.mono,?_⟩
 ·have:=hk.cl;omega
 ·rw [hk.rt.2.2.1];have:=hk.R1;omega
def UG (nx:Rows) (f:FS) (v:Nat):FS:=if gi f.index v=0 then qU nx f v else f
def BJ (nx:Rows) (f:FS):Nat->FS
 |0=>f
 |k+1=>UG nx (BJ nx f k) k
def f0 (n:Nat):FS:=⟨dJ n 0,dJ n 0,[],dJ n 0,[],0⟩
theorem Hw (n:Nat) (v:Int):gi (dJ n 0) v=0:=by
 unfold gi;rw [fI,List.getElem?_replicate];split<;>rfl
theorem vis_rep (n:Nat):vis (dJ n 0)=0:=by
 unfold vis;rw [List.countP_eq_zero];intro a ha;rw [(List.mem_replicate.1 ha).2]
 decide
theorem f0_ok (nx:Rows) (n:Nat):VOk nx n (f0 n):=by
 refine⟨⟨List.length_replicate ..,List.length_replicate ..,List.length_replicate ..,?_,Nat.zero_le _,fun v hv=>(by cases hv),fun v _ _=>?_,fun p hp=>(by cases hp),fun v _ _ h=>absurd (Hw n v) h,List.nodup_nil,fun v _ _=>?_,fun _ _ _ h=>h⟩,rfl,Nat.zero_le _⟩
 ·show(0:Int)=(vis (dJ n 0):Nat);rw [vis_rep];rfl
 ·show 0<=gi (dJ n 0) v/\gi (dJ n 0) v<=_;rw [Hw];exact⟨Int.le_refl _,Int.natCast_nonneg _⟩
 ·show gi (dJ n 0) v<=0;rw [Hw];exact Int.le_refl _
theorem PG {nx:Rows} {n:Nat} (hx:qp nx n):∀ k,k<=n->VOk nx n (BJ nx (f0 n) k)/\∀ v:Int,0<=v->v<k->gi (BJ nx (f0 n) k).index v≠0
 |0,_=>⟨f0_ok nx n,fun v h1 h2=>by omega⟩
 |k+1,hk=>by
   obtain⟨h1,h2⟩:=PG hx k au
   rw [BJ,UG];split
   ·rename_i h0;obtain⟨h3,h4,h5⟩:=find_ok hx h1 ⟨au,au⟩ h0
    refine⟨h3,fun v hv hv2=>?_⟩
    by_cases e:v=k
    ·rw [e];exact h5
    ·exact h4 v hv au (h2 v hv au)
   ·rename_i h0;refine⟨h1,fun v hv hv2=>?_⟩
    by_cases e:v=k
    ·rw [e];exact h0
    ·exact h2 v hv au
structure POk (n:Nat) (part:List Int) (parts:Rows):Prop where
 lp:part.length=n
 pl:parts.length<=n
 p1:∀ v:Int,0<=v->v<n->1<=gi part v/\gi part v<=parts.length
 pn:∀ p∈parts,p≠[]/\∀ w∈p,0<=w/\w<n
theorem RQ {nx:Rows} {n:Nat} (hx:qp nx n):POk n (BJ nx (f0 n) n).part (BJ nx (f0 n) n).parts:=by
 obtain⟨h1,h2⟩:=PG hx n (Nat.le_refl _);refine⟨h1.ok.lp,?_,fun v hv hv2=>⟨?_,(h1.ok.p0 v hv hv2).2⟩,h1.ok.pn⟩
 ·have:=h1.pl;have:=KW (BJ nx (f0 n) n).index;rw [h1.ok.li]at this;omega
 ·rcases h1.ok.seen v hv hv2 (h2 v hv hv2)with h|h
  ·exact h
  ·rw [h1.st]at h;cases h
def wuI (part row:List Int) (v:Nat) (s:List Int×Rows) (k:Nat):List Int×Rows :=
 if gi part v=gi part (gi row k)then s
 else(s.1.set (gi part v).toNat (gi s.1 (gi part v)+1),s.2.set (gi part (gi row k)).toNat (aQ s.2 (gi part (gi row k)).toNat++[gi part v]))
def wuR (part row:List Int) (v:Nat) (s:List Int×Rows):Nat->List Int×Rows
 |0=>s
 |k+1=>wuI part row v (wuR part row v s k) k
def UF (part:List Int) (nx:Rows) (s:List Int×Rows):Nat->List Int×Rows
 |0=>s
 |v+1=>wuR part (aQ nx v) v (UF part nx s v) (aQ nx v).length
def WH (P:Nat):List Int×Rows:=(dJ (P+1) 0,dJ (P+1) [])
structure WOk (P:Nat) (d:Nat) (s:List Int×Rows):Prop where
 lw:s.1.length=P+1
 lu:s.2.length=P+1
 w:∀ p:Int,0<=gi s.1 p/\gi s.1 p<=d
 u:∀ q:Nat,∀ p∈aQ s.2 q,1<=p/\p<=P
 ul:∀ q:Nat,(aQ s.2 q).length<=d
 w0:gi s.1 0=0
theorem EG {l:List Int} {k:Nat} {j x:Int}:gi (l.set k x) j=if k=j.toNat/\k<l.length then x else gi l j:=by
 have:=sK (l:=l) (k:=(k:Int)) (j:=j) (x:=x);simpa using this
theorem wuI_ok {n P d:Nat} {part row:List Int} {parts:Rows} {v:Nat} {s:List Int×Rows} {k:Nat} (hp:POk n part parts) (hP:parts.length=P) (h:WOk P d s) (hv:v<n) (hk:0<=gi row k/\gi row k<n):WOk P (d+1) (wuI part row v s k):=by
 have hpv:=hp.p1 v au au
 have hpw:=hp.p1 (gi row k) hk.1 hk.2;unfold wuI;split
 ·exact⟨h.lw,h.lu,fun p=>by have:=h.w p;omega,h.u,fun q=>by have:=h.ul q;omega,h.w0⟩
 ·refine⟨(List.length_set ..).trans h.lw,(List.length_set ..).trans h.lu,fun p=>?_,fun q p hpq=>?_,fun q=>?_,?_⟩
  ·show 0<=gi (s.1.set _ _) p/\gi (s.1.set _ _) p<=_;rw [EG];have h1:=h.w p;have h2:=h.w (gi part v);split<;>omega
  ·have hpq:p∈aQ (s.2.set (gi part (gi row k)).toNat (aQ s.2 (gi part (gi row k)).toNat++[gi part v])) q:=hpq;rw [oG]at hpq;split at hpq
   ·rcases List.mem_append.1 hpq with hpq|hpq
    ·exact h.u _ p hpq
    ·rw [List.mem_singleton.1 hpq];omega
   ·exact h.u q p hpq
  ·show(aQ (s.2.set (gi part (gi row k)).toNat (aQ s.2 (gi part (gi row k)).toNat++[gi part v])) q).length<=d+1;rw [oG];split
   ·rw [dL];exact Nat.succ_le_succ (h.ul _)
   ·exact Nat.le_succ_of_le (h.ul q)
  ·show gi (s.1.set _ _) 0=0;rw [EG,if_neg au]
   exact h.w0
theorem Pz {n P d:Nat} {part row:List Int} {parts:Rows} {v:Nat} {s:List Int×Rows} (hp:POk n part parts) (hP:parts.length=P) (h:WOk P d s) (hv:v<n) (hr:∀ w∈row,0<=w/\w<n):∀ k,k<=row.length->WOk P (d+k) (wuR part row v s k)
 |0,_=>h
 |k+1,hk=>by
   have ih:=Pz hp hP h hv hr k au
   rw [wuR];exact wuI_ok hp hP ih hv (hr _ (ny au))
theorem LH (P q:Nat):aQ (dJ P []) q=[]:=by
 unfold aQ;rw [fI,List.getElem?_replicate];split<;>rfl
theorem wu0_ok (P:Nat):WOk P 0 (WH P):=⟨List.length_replicate ..,List.length_replicate ..,fun p=>by show 0<=gi (dJ (P+1) 0) p/\gi (dJ (P+1) 0) p<=_;rw [Hw];exact⟨Int.le_refl _,Int.le_refl _⟩,fun q p hp=>by
 have hp:p∈aQ (dJ (P+1) []) q:=hp;rw [LH]at hp
 exact absurd hp (List.not_mem_nil),fun q=>by show(aQ (dJ (P+1) []) q).length<=0;rw [LH];exact Nat.le_refl _,Hw ..⟩
def IY (W:List Int) (parts:Rows):Nat->Rows
 |0=>[]
 |k+1=>if gi W ((k:Int)+1)=0 then sZ (IY W parts k) (aQ parts k)else IY W parts k
theorem rdS_s1 {W:List Int} {parts:Rows} {k:Nat} (h:gi W ((k:Int)+1)=0):IY W parts (k+1)=sZ (IY W parts k) (aQ parts k):=by rw [IY,if_pos h]
theorem rdS_s0 {W:List Int} {parts:Rows} {k:Nat} (h:¬ gi W ((k:Int)+1)=0):IY W parts (k+1)=IY W parts k:=by rw [IY,if_neg h]
def cnt1 (W:List Int):Nat:=W.countP fun x=>decide (1<=x)
structure TS where
 h:Rows
 W:List Int
 out:Rows
def lsI (parts:Rows) (row:List Int) (s:Rows×List Int) (k:Nat):Rows×List Int :=
 (if gi (s.2.set (gi row k).toNat (gi s.2 (gi row k)-1)) (gi row k)=0 then sZ s.1 (aQ parts (gi row k-1).toNat)else s.1,s.2.set (gi row k).toNat (gi s.2 (gi row k)-1))
def WM (parts:Rows) (row:List Int) (s:Rows×List Int):Nat->Rows×List Int
 |0=>s
 |k+1=>lsI parts row (WM parts row s k) k
def yM (h:Rows):List Int:=aQ (qM h) (h.length-1)
def gM (U:Rows) (part:List Int) (h:Rows):List Int:=aQ U (gi part (gi (yM h) 0)).toNat
def QH (part:List Int) (parts U:Rows) (s:TS):TS :=
 ⟨(WM parts (gM U part s.h) ((qM s.h).take (s.h.length-1),s.W) (gM U part s.h).length).1,(WM parts (gM U part s.h) ((qM s.h).take (s.h.length-1),s.W) (gM U part s.h).length).2,s.out++[yM s.h]⟩
def Na (part:List Int) (parts U:Rows):Nat->TS->TS
 |0,s=>s
 |k+1,s=>if 0<s.h.length then Na part parts U k (QH part parts U s)else s
def rH (s:Rows×List Int):Nat:=cnt1 s.2+s.1.length
def partsOf (n:Nat) (nx:Rows):Rows :=
 let f:=BJ nx (f0 n) n
 let P:=f.parts.length
 let wu:=UF f.part nx (WH P) n
 let h:=IY wu.1 f.parts P
 (Na f.part f.parts wu.2 (rH (h,wu.1)) ⟨h,wu.1,[]⟩).out
def kQ (n:Int) (aA:List kX):Rows:=bif pK n aA then partsOf n.toNat (iP n aA)else []
theorem cnt1_set {W:List Int} {k:Nat} {x:Int} (h:k<W.length):cnt1 (W.set k x)+(if 1<=W.getD k 0 then 1 else 0)=cnt1 W+(if 1<=x then 1 else 0):=by
 induction W generalizing k with
 |nil=>exact absurd h (Nat.not_lt_zero _)
 |cons y W ih =>
   cases k with
   |zero =>
     show cnt1 (x::W)+(if 1<=y then 1 else 0)=_
     unfold cnt1;rw [List.countP_cons,List.countP_cons]
     by_cases h1:1<=y<;>by_cases h2:1<=x<;>simp [h1,h2]
   |succ k =>
     have:=ih (k:=k) (by simpa using h)
     show cnt1 (y::W.set k x)+(if 1<=W.getD k 0 then 1 else 0)=_
     unfold cnt1 at this ⊢;rw [List.countP_cons,List.countP_cons];omega
theorem LK (W:List Int) (parts:Rows):∀ k,k<=parts.length->∀ r∈IY W parts k,r∈parts
 |0,_,r,h=>by cases h
 |k+1,hk,r,h=>by
   rw [IY]at h;split at h
   ·rcases(qx _ _).2 r h with h|h
    ·exact LK W parts k au r h
    ·rw [h];exact mo au
   ·exact LK W parts k au r h
theorem Sw (W:List Int) (parts:Rows):∀ k,(IY W parts k).length<=k
 |0=>Nat.le_refl _
 |k+1=>by
   rw [IY];have:=Sw W parts k;split
   ·rw [(qx _ _).1];omega
   ·omega
theorem Yd (W:List Int) (parts:Rows) (h0:gi W 0=0):∀ k,k+1<=W.length->(IY W parts k).length+cnt1 (W.take (k+1))<=k
 |0,hk=>by
   show 0+cnt1 (W.take 1)<=0
   match W,h0,hk with
   |[],_,hk=>exact absurd hk (by decide)
   |x::r,h0,_ =>
     have h0:x=0:=h0;subst h0;exact Nat.le_refl _
 |k+1,hk=>by
   have ih:=Yd W parts h0 k au
   have e:W.take (k+1+1)=W.take (k+1)++[W[k+1]]:=List.take_succ_eq_append_getElem au
   have eg:gi W ((k:Int)+1)=W[k+1]:=by
     unfold gi;rw [show((k:Int)+1).toNat=k+1 by omega,fI,bZ au]
     rfl
   rw [e,IY,eg];unfold cnt1 at ih ⊢;rw [List.countP_append]
   have h1:List.countP (fun x:Int=>decide (1<=x)) [W[k+1]]=if 1<=W[k+1]then 1 else 0:=by
     rw [List.countP_cons,List.countP_nil]
     by_cases h:1<=W[k+1]<;>simp [h]
   rw [h1];split
   ·rename_i h0;rw [(qx _ _).1,if_neg au]
    omega
   ·split<;>omega
theorem rd_nu {W:List Int} {parts:Rows} {P:Nat} (hW:W.length=P+1) (h0:gi W 0=0):rH (IY W parts P,W)<=P:=by
 have:=Yd W parts h0 P au
 rw [List.take_of_length_le au]at this
 show cnt1 W+(IY W parts P).length<=P;omega
structure Pf (P:Nat) (parts:Rows) (d:Nat) (s:Rows×List Int):Prop where
 lw:s.2.length=P+1
 lo:∀ p:Int,-(d:Int)<=gi s.2 p
 hi:∀ p:Int,gi s.2 p<=4611686018427387904
 me:∀ r∈s.1,r∈parts
theorem Pf.mono {P:Nat} {parts:Rows} {d d':Nat} {s:Rows×List Int} (h:Pf P parts d s) (hd:d<=d'):Pf P parts d' s:=⟨h.lw,fun p=>by have:=h.lo p;omega,h.hi,h.me⟩
theorem getD_gi {l:List Int} {p:Int}:l.getD p.toNat 0=gi l p:=rfl
theorem Zi {P d:Nat} {parts:Rows} {row:List Int} {s:Rows×List Int} {k:Nat} (hP:parts.length=P) (h:Pf P parts d s) (hk:1<=gi row k/\gi row k<=P):Pf P parts (d+1) (lsI parts row s k)/\rH (lsI parts row s k)<=rH s:=by
 have hc:=cnt1_set (W:=s.2) (k:=(gi row k).toNat) (x:=gi s.2 (gi row k)-1) (by rw [h.lw];omega)
 rw [getD_gi]at hc
 have hg:gi (s.2.set (gi row k).toNat (gi s.2 (gi row k)-1)) (gi row k)=gi s.2 (gi row k)-1:=by
   rw [sK,if_pos ⟨rfl,by rw [h.lw];omega⟩]
 refine⟨⟨(List.length_set ..).trans h.lw,fun p=>?_,fun p=>?_,fun r hr=>?_⟩,?_⟩
 ·show _<=gi (s.2.set _ _) p;rw [EG];have h1:=h.lo p;have h2:=h.lo (gi row k);split<;>omega
 ·show gi (s.2.set _ _) p<=_;rw [EG];have h1:=h.hi p;have h2:=h.hi (gi row k);split<;>omega
 ·have hr:r∈(if gi (s.2.set (gi row k).toNat (gi s.2 (gi row k)-1)) (gi row k)=0 then sZ s.1 (aQ parts (gi row k-1).toNat)else s.1):=hr
  split at hr
  ·rcases(qx _ _).2 r hr with hr|hr
   ·exact h.me r hr
   ·rw [hr];exact mo au
  ·exact h.me r hr
 ·show cnt1 (s.2.set _ _)+(if _ then sZ s.1 (aQ parts (gi row k-1).toNat)else s.1).length<=cnt1 s.2+s.1.length
  rw [hg]
  by_cases h0:gi s.2 (gi row k)-1=0
  ·rw [if_pos h0,(qx _ _).1];rw [if_pos au,if_neg au]at hc
   omega
  ·rw [if_neg h0]
   by_cases h1:1<=gi s.2 (gi row k)
   ·rw [if_pos h1,if_pos au]at hc
    omega
   ·rw [if_neg h1,if_neg au]at hc
    omega
theorem QG {P d:Nat} {parts:Rows} {row:List Int} {s:Rows×List Int} (hP:parts.length=P) (h:Pf P parts d s) (hr:∀ p∈row,1<=p/\p<=P):∀ k,k<=row.length->Pf P parts (d+k) (WM parts row s k)/\rH (WM parts row s k)<=rH s
 |0,_=>⟨h,Nat.le_refl _⟩
 |k+1,hk=>by
   obtain⟨h1,h2⟩:=QG hP h hr k au
   obtain⟨h3,h4⟩:=Zi (row:=row) (k:=k) hP h1 (hr _ (ny au))
   exact⟨h3,Nat.le_trans h4 h2⟩
theorem Eo {P d:Nat} {parts h:Rows} {W:List Int} (hh:Pf P parts d (h,W)) (h0:0<h.length):Pf P parts d ((qM h).take (h.length-1),W)/\rH ((qM h).take (h.length-1),W)+1=rH (h,W)/\yM h∈parts:=by
 obtain⟨h1,h2⟩:=Gl h0;refine⟨⟨hh.lw,hh.lo,hh.hi,fun r hr=>hh.me r (h2 r (List.mem_of_mem_take hr))⟩,?_,hh.me _ (h2 _ (mo au))⟩
 show cnt1 W+((qM h).take (h.length-1)).length+1=cnt1 W+h.length;rw [List.length_take,h1];omega
theorem Ml {n P d:Nat} {part:List Int} {parts U:Rows} {s:TS} (hp:POk n part parts) (hP:parts.length=P) (hu:∀ q:Nat,∀ p∈aQ U q,1<=p/\p<=P) (h:Pf P parts d (s.h,s.W)) (h0:0<s.h.length) :
   Pf P parts (d+(gM U part s.h).length) ((QH part parts U s).h,(QH part parts U s).W)/\rH ((QH part parts U s).h,(QH part parts U s).W)<rH (s.h,s.W):=by
 obtain⟨h1,h2,h3⟩:=Eo h h0;obtain⟨h4,h5⟩:=QG (row:=gM U part s.h) hP h1 (hu _) _ (Nat.le_refl _);exact⟨h4,by have h5:rH ((QH part parts U s).h,(QH part parts U s).W)<=_:=h5;omega⟩
theorem Zh {n P:Nat} {part:List Int} {parts U:Rows} (hp:POk n part parts) (hP:parts.length=P) (hu:∀ q:Nat,∀ p∈aQ U q,1<=p/\p<=P):∀ (m:Nat) {s:TS} {d:Nat},Pf P parts d (s.h,s.W)->rH (s.h,s.W)<=m->Na part parts U m s=Na part parts U (rH (s.h,s.W)) s:=by
 intro m
 induction m using Nat.strongRecOn with
 |_ m ih =>
   intro s d h hm
   by_cases h0:0<s.h.length
   ·obtain⟨h1,h2⟩:=Ml hp hP hu h h0;obtain⟨m1,rfl⟩:∃ m1,m=m1+1:=⟨m-1,au⟩
    obtain⟨m2,e2⟩:∃ m2,rH (s.h,s.W)=m2+1:=⟨rH (s.h,s.W)-1,au⟩
    rw [e2,Na,Na,if_pos h0,if_pos h0,ih m1 au h1 au]
    by_cases e:m2<m1+1
    ·rw [ih m2 e h1 au]
    ·omega
   ·have hz:∀ k,Na part parts U k s=s:=fun k=>by
      cases k with
      |zero=>rfl
      |succ k=>rw [Na,if_neg h0]
    rw [hz,hz]
theorem lsS_go {n P d:Nat} {part:List Int} {parts U:Rows} {s:TS} (hp:POk n part parts) (hP:parts.length=P) (hu:∀ q:Nat,∀ p∈aQ U q,1<=p/\p<=P) (h:Pf P parts d (s.h,s.W)) (h0:0<s.h.length) :
   Na part parts U (rH (s.h,s.W)) s=Na part parts U (rH ((QH part parts U s).h,(QH part parts U s).W)) (QH part parts U s):=by
 obtain⟨h1,h2⟩:=Ml hp hP hu h h0;obtain⟨m2,e2⟩:∃ m2,rH (s.h,s.W)=m2+1:=⟨rH (s.h,s.W)-1,au⟩
 rw [e2,Na,if_pos h0];exact Zh hp hP hu m2 h1 au
theorem lsS_end {part:List Int} {parts U:Rows} {s:TS} (h0:¬ 0<s.h.length) (k:Nat):Na part parts U k s=s:=by
 cases k with
 |zero=>rfl
 |succ k=>rw [Na,if_neg h0]
structure TOk (part:List Int) (parts U:Rows) (P M T:Nat) (F:TS) (s:TS):Prop where
 lok:Pf P parts ((M-rH (s.h,s.W))*T) (s.h,s.W)
 nu:rH (s.h,s.W)<=M
 ol:s.out.length+rH (s.h,s.W)<=M
 go:Na part parts U (rH (s.h,s.W)) s=F
theorem TOk.next {n P M T:Nat} {part:List Int} {parts U:Rows} {F s:TS} (hp:POk n part parts) (hP:parts.length=P) (hu:∀ q:Nat,∀ p∈aQ U q,1<=p/\p<=P) (hT:∀ q:Nat,(aQ U q).length<=T) (h:TOk part parts U P M T F s) (h0:0<s.h.length):TOk part parts U P M T F (QH part parts U s)/\rH ((QH part parts U s).h,(QH part parts U s).W)<rH (s.h,s.W):=by
 obtain⟨h1,h2⟩:=Ml hp hP hu h.lok h0;refine⟨⟨h1.mono ?_,by have:=h.nu;omega,?_,?_⟩,h2⟩
 ·have e:(gM U part s.h).length<=T:=hT _;have:=h.nu
  calc (M-rH (s.h,s.W))*T+(gM U part s.h).length<=(M-rH (s.h,s.W))*T+T:=Nat.add_le_add_left e _
    _=(M-rH (s.h,s.W)+1)*T:=(Nat.succ_mul ..).symm
    _<=_:=Nat.mul_le_mul_right _ au
 ·show(s.out++[yM s.h]).length+_<=M;have:=h.ol;rw [dL,List.length_singleton];omega
 ·rw [<- lsS_go hp hP hu h.lok h0];exact h.go
theorem TOk.done {P M T:Nat} {part:List Int} {parts U:Rows} {F s:TS} (h:TOk part parts U P M T F s) (h0:¬ 0<s.h.length):s.out=F.out:=by
 rw [<- h.go,lsS_end h0]
theorem TOk.mid {n P M T:Nat} {part:List Int} {parts U:Rows} {F s:TS} (hp:POk n part parts) (hP:parts.length=P) (hu:∀ q:Nat,∀ p∈aQ U q,1<=p/\p<=P) (hT:∀ q:Nat,(aQ U q).length<=T) (h:TOk part parts U P M T F s) (h0:0<s.h.length) {k:Nat} (hk:k<=(gM U part s.h).length) :
   Pf P parts (M*T) (WM parts (gM U part s.h) ((qM s.h).take (s.h.length-1),s.W) k)/\rH (WM parts (gM U part s.h) ((qM s.h).take (s.h.length-1),s.W) k)+1<=M:=by
 obtain⟨h1,h2,h3⟩:=Eo h.lok h0;obtain⟨h4,h5⟩:=QG (row:=gM U part s.h) hP h1 (hu _) k hk;have hn:=h.nu;refine⟨h4.mono ?_,au⟩
 have e:k<=T:=Nat.le_trans hk (hT _)
 calc (M-rH (s.h,s.W))*T+k<=(M-rH (s.h,s.W))*T+T:=Nat.add_le_add_left e _
   _=(M-rH (s.h,s.W)+1)*T:=(Nat.succ_mul ..).symm
   _<=_:=Nat.mul_le_mul_right _ au
def XW (i:Nat) (row:List Int) (s:List Int×List Int) (k:Nat):List Int×List Int:=if gi s.1 (gi row k)<0 then(s.1.set (gi row k).toNat (gi s.2 i),s.2++[gi row k])else s
def Pt (i:Nat) (row:List Int) (s:List Int×List Int):Nat->List Int×List Int
 |0=>s
 |k+1=>XW i row (Pt i row s k) k
def seO (out:Rows) (s:List Int×List Int) (i:Nat):List Int×List Int:=if i<s.2.length then Pt i (aQ out (gi s.2 i).toNat) s (aQ out (gi s.2 i).toNat).length else s
def Pq (out:Rows) (s:List Int×List Int):Nat->List Int×List Int
 |0=>s
 |i+1=>seO out (Pq out s i) i
structure Jm (n:Nat) (b w:List Int):Prop where
 lb:b.length=n
 wr:∀ v∈w,0<=v/\v<n
 bw:∀ v:Int,0<=v->v<n->0<=gi b v->v∈w
 wb:∀ v∈w,0<=gi b v
 fo:∀ v∈w,gi b v=v\/w.idxOf (gi b v)<w.idxOf v
def neg (b:List Int):Nat:=b.countP fun x=>decide (x<0)
theorem SY {b:List Int} {k:Nat} {x:Int} (h:k<b.length) (h0:b.getD k 0<0) (hx:0<=x):neg (b.set k x)+1=neg b:=by
 induction b generalizing k with
 |nil=>exact absurd h (Nat.not_lt_zero _)
 |cons y b ih =>
   cases k with
   |zero =>
     have h0:y<0:=h0;show neg (x::b)+1=_;unfold neg;rw [List.countP_cons_of_neg (by simp;omega),List.countP_cons_of_pos (by simpa using h0)]
   |succ k =>
     have:=ih (k:=k) (by simpa using h) h0
     show neg (y::b.set k x)+1=_;unfold neg at this ⊢;rw [List.countP_cons,List.countP_cons];omega
theorem ME {w:List Int} {x v:Int} (h:v∈w):(w++[x]).idxOf v=w.idxOf v:=by rw [List.idxOf_append,if_pos h]
theorem gi_app {w:List Int} {x:Int} {i:Nat} (h:i<w.length):gi (w++[x]) i=gi w i:=by
 unfold gi;rw [fI,fI,List.getElem?_append_left (by simpa using h)]
theorem Jm.add {n:Nat} {b w:List Int} (h:Jm n b w) {x p:Int} (hx:0<=x/\x<n) (h0:gi b x<0) (hp:p∈w):Jm n (b.set x.toNat p) (w++[x]):=by
 have hnx:x ∉ w:=fun hm=>by have:=h.wb x hm;omega
 have hxl:x.toNat<b.length:=by rw [h.lb];omega
 have kg:∀ v:Int,0<=v->gi (b.set x.toNat p) v=if v=x then p else gi b v:=fun v hv=>by
   rw [sK]
   by_cases e:v=x
   ·subst e;rw [if_pos ⟨rfl,hxl⟩,if_pos rfl]
   ·rw [if_neg (fun q=>e au),if_neg e]
 have hpr:=h.wr p hp;refine⟨(List.length_set ..).trans h.lb,fun v hv=>?_,fun v h1 h2 h3=>?_,fun v hv=>?_,fun v hv=>?_⟩
 ·rcases List.mem_append.1 hv with hv|hv
  ·exact h.wr v hv
  ·cases List.mem_singleton.1 hv;exact hx
 ·rw [kg v h1]at h3
  by_cases e:v=x
  ·subst e;exact List.mem_append_right _ (List.mem_singleton.2 rfl)
  ·rw [if_neg e]at h3;exact List.mem_append_left _ (h.bw v h1 h2 h3)
 ·have hv0:0<=v:=by
    rcases List.mem_append.1 hv with hv|hv
    ·exact(h.wr v hv).1
    ·cases List.mem_singleton.1 hv;exact hx.1
  rw [kg v hv0];split
  ·exact hpr.1
  ·rename_i e;rcases List.mem_append.1 hv with hv|hv
   ·exact h.wb v hv
   ·exact absurd (List.mem_singleton.1 hv) e
 ·rcases List.mem_append.1 hv with hv|hv
  ·have hvx:v≠x:=fun e=>hnx (e▸hv)
   rw [kg v (h.wr v hv).1,if_neg hvx];rcases h.fo v hv with q|q
   ·exact .inl q
   ·right
    have hm:gi b v∈w:=by
      have:=List.idxOf_le_length (a:=v) (l:=w);exact List.idxOf_lt_length_iff.1 au
    rw [ME hm,ME hv];exact q
  ·cases List.mem_singleton.1 hv;right;rw [kg x hx.1,if_pos rfl,ME hp,List.idxOf_append,if_neg hnx];have:=List.idxOf_lt_length_iff.2 hp;omega
theorem seI_ok {n i:Nat} {row:List Int} {s:List Int×List Int} {k:Nat} (h:Jm n s.1 s.2) (hn:neg s.1+s.2.length<=n) (hi:i<s.2.length) (hk:0<=gi row k/\gi row k<n) :
   Jm n (XW i row s k).1 (XW i row s k).2/\neg (XW i row s k).1+(XW i row s k).2.length<=n/\i<(XW i row s k).2.length/\∀ j,j<s.2.length->gi (XW i row s k).2 j=gi s.2 j:=by
 unfold XW;split
 ·rename_i h0;refine⟨h.add hk h0 (ny (by simpa using hi)),?_,?_,fun j hj=>gi_app hj⟩
  ·have hh:=h.wr _ (ny (l:=s.2) (k:=(i:Int)) (by simpa using hi))
   have:=SY (b:=s.1) (k:=(gi row k).toNat) (x:=gi s.2 i) (by rw [h.lb];omega) h0 hh.1
   show neg (s.1.set _ _)+(s.2++[gi row k]).length<=n;rw [dL];show neg (s.1.set _ _)+(s.2.length+1)<=n;omega
  ·show i<(s.2++[gi row k]).length;rw [dL];omega
 ·exact⟨h,hn,hi,fun _ _=>rfl⟩
theorem Qe {n i:Nat} {row:List Int} {s:List Int×List Int} (h:Jm n s.1 s.2) (hn:neg s.1+s.2.length<=n) (hi:i<s.2.length) (hr:∀ w∈row,0<=w/\w<n):∀ k,k<=row.length ->
   Jm n (Pt i row s k).1 (Pt i row s k).2/\neg (Pt i row s k).1+(Pt i row s k).2.length<=n/\i<(Pt i row s k).2.length/\∀ j,j<s.2.length->gi (Pt i row s k).2 j=gi s.2 j
 |0,_=>⟨h,hn,hi,fun _ _=>rfl⟩
 |k+1,hk=>by
   obtain⟨h1,h2,h3,h4⟩:=Qe h hn hi hr k au
   obtain⟨g1,g2,g3,g4⟩:=seI_ok (row:=row) (k:=k) h1 h2 h3 (hr _ (ny au))
   rw [Pt];refine⟨g1,g2,g3,fun j hj=>?_⟩
   have hle:∀ m,s.2.length<=(Pt i row s m).2.length:=fun m=>by
     induction m with
     |zero=>exact Nat.le_refl _
     |succ m ih =>
       rw [Pt];unfold XW;split
       ·show _<=((Pt i row s m).2++[_]).length;rw [dL];omega
       ·exact ih
   rw [g4 j (by have:=hle k;omega),h4 j hj]
theorem seO_ok {n i:Nat} {out:Rows} {s:List Int×List Int} (hx:qp out n) (h:Jm n s.1 s.2) (hn:neg s.1+s.2.length<=n):Jm n (seO out s i).1 (seO out s i).2/\neg (seO out s i).1+(seO out s i).2.length<=n:=by
 unfold seO;split
 ·rename_i hi;obtain⟨h1,h2,_⟩:=Qe h hn hi (hx.row (gi s.2 i).toNat) _ (Nat.le_refl _);exact⟨h1,h2⟩
 ·exact⟨h,hn⟩
theorem Qd {n:Nat} {out:Rows} {s:List Int×List Int} (hx:qp out n) (h:Jm n s.1 s.2) (hn:neg s.1+s.2.length<=n):∀ i,Jm n (Pq out s i).1 (Pq out s i).2/\neg (Pq out s i).1+(Pq out s i).2.length<=n
 |0=>⟨h,hn⟩
 |i+1=>by
   obtain⟨h1,h2⟩:=Qd hx h hn i;exact seO_ok hx h1 h2
theorem NC {out:Rows} {s:List Int×List Int} {i:Nat} (h:¬ i<(Pq out s i).2.length):∀ j,Pq out s (i+j)=Pq out s i
 |0=>rfl
 |j+1=>by
   have ih:=NC h j;show seO out (Pq out s (i+j)) (i+j)=_;rw [ih];unfold seO;rw [if_neg au]
theorem neg_rep (n:Nat):neg (dJ n (-1))=n:=by
 unfold neg;rw [List.countP_eq_length.2 (fun a ha=>by rw [(List.mem_replicate.1 ha).2];decide),List.length_replicate]
theorem TY {n:Nat} {v:Int} (h:v.toNat<n):gi (dJ n (-1)) v = -1:=by
 unfold gi;rw [fI,List.getElem?_replicate,if_pos h];rfl
theorem s0_ok {n:Nat} {r:Int} (hr:0<=r/\r<n):Jm n ((dJ n (-1)).set r.toNat r) [r]/\neg ((dJ n (-1)).set r.toNat r)+[r].length<=n:=by
 have hl:r.toNat<(dJ n (-1:Int)).length:=by rw [List.length_replicate];omega
 have kg:∀ v:Int,0<=v->v<n->gi ((dJ n (-1)).set r.toNat r) v=if v=r then r else -1:=fun v hv h2=>by
   rw [sK]
   by_cases e:v=r
   ·subst e;rw [if_pos ⟨rfl,hl⟩,if_pos rfl]
   ·rw [if_neg (fun q=>e au),if_neg e,TY au]
 refine⟨⟨by rw [List.length_set,List.length_replicate],fun v hv=>by cases List.mem_singleton.1 hv;exact hr,fun v h1 h2 h3=>?_,fun v hv=>?_,fun v hv=>?_⟩,?_⟩
 ·rw [kg v h1 h2]at h3;split at h3
  ·rename_i e;subst e;exact List.mem_singleton.2 rfl
  ·omega
 ·cases List.mem_singleton.1 hv;rw [kg r hr.1 hr.2,if_pos rfl];exact hr.1
 ·cases List.mem_singleton.1 hv;left;rw [kg r hr.1 hr.2,if_pos rfl]
 ·have:=SY (b:=dJ n (-1)) (k:=r.toNat) (x:=r) hl (by show gi (dJ n (-1)) r<0;rw [TY au];decide) hr.1
  rw [neg_rep]at this;show _+1<=n;omega
def Nt (b:List Int):Nat->Int->List Int
 |0,_=>[]
 |m+1,v=>if gi b v=v then []else gi b v::Nt b m (gi b v)
def uw (b:List Int) (to:Int):List Int:=if gi b to<0 then []else(to::Nt b b.length to).reverse
theorem Ns {n:Nat} {b w:List Int} (h:Jm n b w):∀ (m:Nat) {v:Int},v∈w->w.idxOf v<=m->Nt b m v=Nt b (w.idxOf v) v:=by
 intro m
 induction m using Nat.strongRecOn with
 |_ m ih =>
   intro v hv hm;rcases h.fo v hv with q|q
   ·have hz:∀ k,Nt b k v=[]:=fun k=>by
      cases k with
      |zero=>rfl
      |succ k=>rw [Nt,if_pos q]
    rw [hz,hz]
   ·have hgm:gi b v∈w:=by
      have:=List.idxOf_le_length (a:=v) (l:=w);exact List.idxOf_lt_length_iff.1 au
    have hne:gi b v≠v:=fun e=>by rw [e]at q;omega
    obtain⟨m1,rfl⟩:∃ m1,m=m1+1:=⟨m-1,au⟩
    obtain⟨m2,e2⟩:∃ m2,w.idxOf v=m2+1:=⟨w.idxOf v-1,au⟩
    rw [e2,Nt,Nt,if_neg hne,if_neg hne,ih m1 au hgm au]
    by_cases e:m2<m1+1
    ·rw [ih m2 e hgm au]
    ·omega
theorem trT_end {b:List Int} {v:Int} (q:gi b v=v) (k:Nat):Nt b k v=[]:=by
 cases k with
 |zero=>rfl
 |succ k=>rw [Nt,if_pos q]
theorem trT_go {n:Nat} {b w:List Int} (h:Jm n b w) {v:Int} (hv:v∈w) (q:¬ gi b v=v):Nt b (w.idxOf v) v=gi b v::Nt b (w.idxOf (gi b v)) (gi b v)/\gi b v∈w/\w.idxOf (gi b v)<w.idxOf v:=by
 rcases h.fo v hv with q'|q'
 ·exact absurd q' q
 ·have hgm:gi b v∈w:=by
    have:=List.idxOf_le_length (a:=v) (l:=w);exact List.idxOf_lt_length_iff.1 au
  refine⟨?_,hgm,q'⟩;obtain⟨m2,e2⟩:∃ m2,w.idxOf v=m2+1:=⟨w.idxOf v-1,au⟩
  rw [e2,Nt,if_neg q,Ns h m2 hgm au]
theorem Lm {n:Int} {aA:List kX} (h:pK n aA=true):gOk n aA:=by
 unfold pK at h;simp only [Bool.and_eq_true,decide_eq_true_eq,Bool.not_eq_true']at h;refine⟨h.1.1,h.1.2,fun k hk=>?_⟩
 have h2:=List.any_eq_false.1 h.2 k (List.mem_range.2 hk);have h2:xM n (kW aA k)≠true:=h2;unfold xM at h2
 cases hA:(decide (0<=(kW aA k).From)&&decide ((kW aA k).From<n))with
 |false=>rw [hA]at h2;exact absurd rfl h2
 |true =>
   rw [hA]at h2
   cases hB:(decide (0<=(kW aA k).To)&&decide ((kW aA k).To<n))with
   |false=>rw [hB]at h2;exact absurd rfl h2
   |true =>
     simp only [Bool.and_eq_true,decide_eq_true_eq]at hA hB;exact⟨hA.1,hA.2,hB.1,hB.2⟩
def Wx (n:Int) (o:Rows):Prop:=∀ v,∀ w∈aQ o v,0<=w/\w<n
theorem YQ {n:Int} {aA:List kX} (h:gOk n aA):∀ k,k<=aA.length->Wx n (zK n aA k)
 |0,_=>fun v w hw=>by
   rw [zK,LH]at hw;cases hw
 |k+1,hk=>fun v w hw=>by
   have ih:=YQ h k au
   rw [zK,oG]at hw;split at hw
   ·rcases List.mem_append.1 hw with hw|hw
    ·exact ih _ w hw
    ·cases List.mem_singleton.1 hw;obtain⟨_,_,h3,h4⟩:=h.2.2 k au
     exact⟨h3,h4⟩
   ·exact ih v w hw
theorem nxI_ok {n:Int} {o:Rows} (h:Wx n o) (j:Nat):Wx n (nxI o j):=fun v w hw=>by
 have h1:∀ w∈isr (aQ o j),0<=w/\w<n:=fun w hw=>h j w (List.mem_mergeSort.1 hw)
 unfold nxI at hw;rw [oG]at hw;split at hw
 ·have hw:=J8 hw;rw [oG]at hw;split at hw
  ·exact h1 w hw
  ·exact h j w hw
 ·rw [oG]at hw;split at hw
  ·exact h1 w hw
  ·exact h v w hw
theorem YN {n:Int} {o:Rows} (h:Wx n o):∀ j,Wx n (YP o j)
 |0=>h
 |j+1=>nxI_ok (YN h j) j
theorem Eu {n:Int} {aA:List kX} (h:gOk n aA):qp (iP n aA) n.toNat:=by
 have hr:Wx n (iP n aA):=YN (YQ h _ (Nat.le_refl _)) _;have hl:(iP n aA).length=n.toNat:=(YO _ _).trans (YR n aA _);have h0:=h.1;refine⟨hl,?_⟩;intro r hrm w hw;obtain⟨i,hi,e⟩:=Oa hrm;rw [<- e]at hw;have:=hr i w hw;omega
def tot:Rows->Nat
 |[]=>0
 |r::o=>r.length+tot o
theorem tot_set:∀ {o:Rows} {v:Nat} {l:List Int},v<o.length->tot (o.set v l)+(aQ o v).length=tot o+l.length
 |[],_,_,h=>absurd h (Nat.not_lt_zero _)
 |r::o,0,l,_=>by
   show l.length+tot o+r.length=r.length+tot o+l.length;omega
 |r::o,v+1,l,h=>by
   have ih:=tot_set (o:=o) (v:=v) (l:=l) (by simpa using h)
   show r.length+tot (o.set v l)+(aQ o v).length=r.length+tot o+l.length;omega
theorem tot_rep (n:Nat):tot (dJ n [])=0:=by
 induction n with
 |zero=>rfl
 |succ n ih=>rw [List.replicate_succ,tot,ih];rfl
theorem tot_nxA (n:Int) (aA:List kX):∀ k,tot (zK n aA k)<=k
 |0=>by rw [zK,tot_rep];exact Nat.le_refl _
 |k+1=>by
   have ih:=tot_nxA n aA k;rw [zK]
   by_cases h:(kW aA k).From.toNat<(zK n aA k).length
   ·have:=tot_set (o:=zK n aA k) (l:=aQ (zK n aA k) (kW aA k).From.toNat++[(kW aA k).To]) h;rw [dL]at this;have e:[(kW aA k).To].length=1:=rfl;omega
   ·rw [List.set_eq_of_length_le au]
    omega
theorem tot_nxI (o:Rows) (v:Nat):tot (nxI o v)<=tot o:=by
 by_cases h:v<o.length
 ·rw [nxI_eq h];have:=tot_set (o:=o) (l:=icp (isr (aQ o v))) h;have h1:(icp (isr (aQ o v))).length<=(isr (aQ o v)).length:=Lib.compact_length_le (α:=Int) _;have h2:(isr (aQ o v)).length=(aQ o v).length:=List.length_mergeSort ..;omega
 ·unfold nxI;have e:o.set v (isr (aQ o v))=o:=List.set_eq_of_length_le au
  rw [e,List.set_eq_of_length_le au]
  exact Nat.le_refl _
theorem tot_nxB (o:Rows):∀ k,tot (YP o k)<=tot o
 |0=>Nat.le_refl _
 |k+1=>Nat.le_trans (tot_nxI _ _) (tot_nxB o k)
theorem tot_next (n:Int) (aA:List kX):tot (iP n aA)<=aA.length:=Nat.le_trans (tot_nxB _ _) (tot_nxA n aA _)
theorem tot_take:∀ (o:Rows) (k:Nat),tot (o.take k)<=tot o
 |[],k=>by rw [List.take_nil];exact Nat.le_refl _
 |r::o,0=>Nat.zero_le _
 |r::o,k+1=>by
   have:=tot_take o k;show r.length+tot (o.take k)<=r.length+tot o;omega
theorem tot_take_s:∀ (o:Rows) (k:Nat),k<o.length->tot (o.take (k+1))=tot (o.take k)+(aQ o k).length
 |[],k,h=>absurd h (Nat.not_lt_zero _)
 |r::o,0,_=>by
   show r.length+tot []=tot []+r.length;omega
 |r::o,k+1,h=>by
   have:=tot_take_s o k (by simpa using h)
   show r.length+tot (o.take (k+1))=r.length+tot (o.take k)+(aQ o k).length;omega
theorem Ef {n P:Nat} {part:List Int} {nx parts:Rows} (hx:qp nx n) (hp:POk n part parts) (hP:parts.length=P):∀ v,v<=n->WOk P (tot (nx.take v)) (UF part nx (WH P) v)
 |0,_=>wu0_ok P
 |v+1,hv=>by
   have ih:=Ef hx hp hP v au
   rw [UF,tot_take_s nx v (by rw [hx.len];omega)]
   exact Pz (n:=n) (row:=aQ nx v) hp hP ih au (hx.row v) _ (Nat.le_refl _)
structure RevI (l t:List Int) (i:Nat):Prop where
 len:t.length=l.length
 at_:∀ k,k<l.length->t.getD k 0=if k<i\/l.length<=k+i then l.getD (l.length-1-k) 0 else l.getD k 0
theorem rev0 (l:List Int):RevI l l 0:=⟨rfl,fun k hk=>by rw [if_neg au]⟩
theorem OI {l:List Int} {a k:Nat} {x:Int}:(l.set a x).getD k 0=if a=k/\a<l.length then x else l.getD k 0:=by
 rw [fI,fI,List.getElem?_set]
 by_cases e:a=k
 ·by_cases h:a<l.length
  ·rw [if_pos e,if_pos h,if_pos ⟨e,h⟩];rfl
  ·rw [if_pos e,if_neg h,if_neg (fun q=>h q.2),<- e,List.getElem?_eq_none au]
 ·rw [if_neg e,if_neg (fun q=>e q.1)]
theorem X9 {l t:List Int} {i j:Nat} (h:RevI l t i) (hj:i+j+1=l.length) (hij:i<j):RevI l ((t.set i (t.getD j 0)).set j (t.getD i 0)) (i+1):=by
 refine⟨by rw [List.length_set,List.length_set];exact h.len,fun k hk=>?_⟩
 have hl:=h.len;have hi:=h.at_ i au
 have hjj:=h.at_ j au
 rw [if_neg au]at hi hjj
 rw [OI,OI,List.length_set]
 by_cases e1:j=k
 ·subst e1;rw [if_pos ⟨rfl,au⟩,if_pos au,hi,show l.length-1-j=i by omega]
 ·rw [if_neg (fun q=>e1 q.1)]
  by_cases e2:i=k
  ·subst e2;rw [if_pos ⟨rfl,au⟩,if_pos au,hjj,show l.length-1-i=j by omega]
  ·rw [if_neg (fun q=>e2 q.1),h.at_ k hk]
   by_cases c:k<i\/l.length<=k+i
   ·rw [if_pos c,if_pos au]
   ·rw [if_neg c,if_neg au]
theorem rev_end {l t:List Int} {i j:Nat} (h:RevI l t i) (hj:i+j+1=l.length\/(l.length=0)) (hij:¬ i<j):t=l.reverse:=by
 apply List.ext_getElem?;intro k;have hl:=h.len
 by_cases hk:k<l.length
 ·have e:=h.at_ k hk
  have e2:t.getD k 0=l.getD (l.length-1-k) 0:=by
    rw [e];split
    ·rfl
    ·rw [show l.length-1-k=k by omega]
  rw [fI,fI,bZ au,bZ au]at e2
  rw [List.getElem?_reverse hk,bZ au,bZ au]
  exact congrArg some e2
 ·rw [List.getElem?_eq_none au,List.getElem?_eq_none (by rw [List.length_reverse];omega)]
theorem hc_rev {z:Option Bool} {l:Li 0}:HC E0 362 1 [.bT 0] [(0,.arr 3 z 0 l)] (fun s H n=>s=.jm []/\H=[(0,.arr 3 none 0 (List.reverse (α:=Int) l))]/\n=1):=by
 refine dG (DB:=[]) (IL:=[]) (WL:=[]) (fn:=Proofs.Tryz.f362) rfl rfl rfl rfl (by unfold dA;kernel_rfl) (fun hk=>?_)
 simp only [know]at hk
 repeat' first|refine dM ?_|apply B_<;>intro h hc|apply I_;intro h
 all_goals conv=>whnf
 refine Or.inr (Or.inr ⟨[],[2,3],[],[0],[0],[],?_⟩);conv=>whnf
 refine⟨fun(s:Int×Int×Unit) (t:Li 0×Unit)=>0<=s.1/\s.1<=(@ln (ah 0) l:Nat)/\s.1+s.2.1=(@ln (ah 0) l:Nat)-1/\s.1<=s.2.1+1/\RevI l t.1 s.1.toNat,fun(s:Int×Int×Unit) _=>((@ln (ah 0) l:Nat)-s.1).toNat,?_⟩
 conv=>whnf
 refine eZ.mk ⟨bg,bg,bg,bg,rev0 l⟩ bA ?_
 rintro⟨(i:Int),(j:Int),_⟩ ⟨(t:Li 0),_⟩ ⟨h0,h1,h2,h2b,h3⟩
 try dsimp only at h0 h1 h2 h2b h3
 obtain⟨i,rfl⟩:=cO h0;rw [bP]at h3;have hl:@ln (ah 0) t=@ln (ah 0) l:=h3.len;have oS:∀ (q:Nat) (x:ah 0),(i:Int)<j->0<=j/\j<(@ln (ah 0) (List.set (α:=ah 0) t q x):Nat):=fun q x hb=>⟨au,by rw [@List.length_set (ah 0) t q x];omega⟩
 repeat' first|(refine w_ ?_;first|(apply aP;focus (exact oS _ _ (by assumption)))|refine bO bK trivial ?_)|apply B_<;>intro h hc|apply I_;intro h
 all_goals conv=>whnf
 ·refine⟨bg,bg,bg,bg,?_⟩
  have e:=X9 (j:=j.toNat) h3 (by show i+j.toNat+1=@ln (ah 0) l;omega) au
  exact e
 ·have e:=rev_end (j:=j.toNat) h3 (by show i+j.toNat+1=@ln (ah 0) l\/@ln (ah 0) l=0;omega) au
  refine⟨[],[],_,_,[],⟨rfl,rfl,rfl⟩,?_⟩
  conv=>whnf
  refine w_ ?_;repeat' (first|((with_reducible apply And.intro)<;>(first|(with_reducible refine iK ?_;apply rfl)|(with_reducible refine eY ?_;apply rfl)|(refine w_ ?_)))|(with_reducible apply trivial)|apply rfl|apply(Or.inl rfl)|apply(Or.inr rfl)|apply(Or.inr (Or.inl rfl))|apply trivial|(apply And.intro<;>(refine w_ ?_)))
  all_goals (first|exact pO e|exact e)
def trI (L b w o:List Int) (v:Int):Prop:=v∈w/\w.idxOf v+o.length<=w.length/\L=o++Nt b (w.idxOf v) v
theorem XA {n:Nat} {L b w o:List Int} {v:Int} (hS:Jm n b w) (h:trI L b w o v) (q:¬ gi b v=v):trI L b w (o++[gi b v]) (gi b v)/\w.idxOf (gi b v)<w.idxOf v:=by
 obtain⟨h0,h1,h2⟩:=h;obtain⟨g1,g2,g3⟩:=trT_go hS h0 q;refine⟨⟨g2,by rw [dL];show _+(o.length+1)<=_;omega,?_⟩,g3⟩
 rw [h2,g1,List.append_assoc];rfl
theorem trI_end {L b w o:List Int} {v:Int} (h:trI L b w o v) (q:gi b v=v):L=o:=by
 rw [h.2.2,trT_end q];exact List.append_nil _
theorem UK {n:Nat} {b w:List Int} {to:Int} (hS:Jm n b w) (h0:to∈w) (hl:w.length<=b.length):trI (to::Nt b b.length to) b w [to] to:=by
 refine⟨h0,List.idxOf_lt_length_iff.2 h0,?_⟩;rw [Ns hS b.length h0 (Nat.le_trans List.idxOf_le_length hl)];rfl
def trOk (b:List Int) (to:Int):Prop:=(∃ w,Jm b.length b w/\w.length<=b.length)/\0<=to/\to<b.length/\b.length<=262144
def F_Ab:Fact E0:=bM 265 Proofs.Tryz.f265 rfl rfl rfl [.l 0,.i] (fun b to=>.ob (trOk b to) (.aW (some (isE (uw b to))) 0 (uw b to))) [] [] (by
   intro b to;refine fD rfl rfl fun hb hk=>?_
   simp only [know]at hk;obtain⟨⟨w,hS,hwl⟩,hq0,hq1,hq2⟩:=hb;have hq:0<=to/\to<(@ln (ah 0) b:Nat):=⟨hq0,hq1⟩;have hbl:@ln (ah 0) b<=262144:=hq2
   repeat' first|(refine w_ ?_;first|(apply aP;focus (exact hq))|refine bO bK trivial ?_)|apply B_<;>intro h hc|apply I_;intro h
   all_goals conv=>whnf
   ·have e:uw b to=[]:=if_pos (by assumption)
    exact⟨Or.inr (by rw [e];rfl),e⟩
   have hb0:¬ gi b to<0:=by assumption
   have hw0:to∈w:=hS.bw to hq0 hq1 au
   have eT:uw b to=(to::Nt b (List.length (α:=Int) b) to).reverse:=if_neg hb0;have est:=UK hS hw0 hwl;generalize hL:to::Nt b (List.length (α:=Int) b) to=L at eT est;refine Or.inr (Or.inr ⟨[(5,3,0)],[1,5],[],[],[0],[0],?_⟩);conv=>whnf
   refine⟨fun(s:Int×Unit×Unit) (t:Li 0×Unit)=>trI L b w t.1 s.1,fun(s:Int×Unit×Unit) _=>w.idxOf s.1,?_⟩
   conv=>whnf
   refine eZ.mk est bA ?_;rintro⟨(v:Int),_,_⟩ ⟨(o:Li 0),_⟩ hI;replace hI:trI L b w o v:=hI;have hv:=hS.wr v hI.1;have h1:w.idxOf v+@ln (ah 0) o<=w.length:=hI.2.1;have hv2:0<=v/\v<(@ln (ah 0) b:Nat):=hv;have hsz:(@ln (ah 0) o+1)*8<=140737488355328:=by omega
   repeat' first|(refine w_ ?_;first|(apply aP;focus (first|exact hv2|exact hsz))|refine bO bK trivial ?_)|apply B_<;>intro h hc|apply I_;intro h
   all_goals conv=>whnf
   ·obtain⟨g1,g2⟩:=XA hS hI (by assumption)
    exact KF.mk g1 g2 bA
   have hoe:L=o:=trI_end hI (by assumption)
   have hLp:0<List.length (α:=Int) L:=by rw [<- hL];exact Nat.succ_pos _
   subst hoe
   repeat' first|(refine w_ ?_;first|refine bO bK trivial ?_|(refine Or.inl ⟨_,_,_,_,[1],hc_rev , rfl,rfl,rfl,rfl,rfl,(aK trivial),?_⟩;(rintro _ _ _ ⟨rfl,rfl,rfl⟩;refine aK (aK ?_))))|apply B_<;>intro h hc|apply I_;intro h
   all_goals conv=>whnf
   refine And.intro (Or.inr (Or.inr ⟨?_,?_⟩)) (pO eT.symm)
   ·rw [eT]
    cases hc:List.reverse L with
    |nil=>rw [List.reverse_eq_nil_iff]at hc;rw [hc]at hLp;cases hLp
    |cons x r=>rfl
   ·show 0<List.length (List.reverse (α:=Int) L);rw [List.length_reverse]
    exact hLp)
def cmpL:List Int->List Int->Int
 |[],[]=>0
 |[],_::_=>-1
 |_::_,[]=>1
 |x::a,y::b=>if uf x y=0 then cmpL a b else uf x y
theorem Uj {a b:List Int} {k:Nat} (ha:k<a.length) (hb:k<b.length):cmpL (a.drop k) (b.drop k)=if uf (gi a k) (gi b k)=0 then cmpL (a.drop (k+1)) (b.drop (k+1))else uf (gi a k) (gi b k):=by
 have ea:gi a k=a[k]:=by unfold gi;rw [bP,fI,bZ ha];rfl
 have eb:gi b k=b[k]:=by unfold gi;rw [bP,fI,bZ hb];rfl
 rw [List.drop_eq_getElem_cons ha,List.drop_eq_getElem_cons hb,ea,eb];rfl
theorem cmpL_r {a b:List Int} {k:Nat} (ha:k<a.length) (hb:b.length<=k):cmpL (a.drop k) (b.drop k)=1:=by
 rw [List.drop_eq_getElem_cons ha,List.drop_of_length_le hb];rfl
theorem cmpL_e {a b:List Int} {k:Nat} (ha:a.length=k) (hb:k<=b.length):cmpL (a.drop k) (b.drop k)=if a.length<b.length then -1 else 0:=by
 rw [List.drop_of_length_le (Nat.le_of_eq ha)];split
 ·rename_i h;rw [List.drop_eq_getElem_cons au]
  rfl
 ·rw [List.drop_of_length_le au]
  rfl
def F_DP:Fact E0:=bM 266 Proofs.Tryz.f266 rfl rfl rfl [.l 0,.l 0] (fun a b=>.ok (.i (cmpL a b))) [Jq] [] (by
   intro a b;refine dP rfl rfl fun hk=>?_
   simp only [know]at hk
   repeat' first|refine dM ?_|apply B_<;>intro h hc|apply I_;intro h
   all_goals conv=>whnf
   refine Or.inr (Or.inr ⟨[],[11],[],[],[0,1,9,10],[],?_⟩);conv=>whnf
   refine⟨fun(s:Int×Unit) (_:Unit)=>0<=s.1/\s.1<=(@ln (ah 0) a:Nat)/\s.1<=(@ln (ah 0) b:Nat)/\cmpL a b=cmpL (List.drop (α:=Int) s.1.toNat a) (List.drop (α:=Int) s.1.toNat b),fun(s:Int×Unit) _=>((@ln (ah 0) a:Nat)-s.1).toNat,?_⟩
   conv=>whnf
   refine eZ.mk ⟨bg,bg,bg,rfl⟩ bA ?_
   rintro⟨(k:Int),_⟩ _ ⟨h0,h1,h2,h3⟩
   try dsimp only at h0 h1 h2 h3
   obtain⟨k,rfl⟩:=cO h0;rw [bP]at h3
   repeat' first|refine dM ?_|apply B_<;>intro h hc|apply I_;intro h
   all_goals conv=>whnf
   ·rw [h3];exact(cmpL_r (a:=a) (b:=b) (by show k<@ln (ah 0) a;omega) (by show @ln (ah 0) b<=k;omega)).symm
   ·rw [h3,Uj (a:=a) (b:=b) (by show k<@ln (ah 0) a;omega) (by show k<@ln (ah 0) b;omega),if_neg (by assumption)]
    rfl
   ·refine⟨bg,bg,bg,?_⟩
    show _=cmpL (List.drop (k+1) a) (List.drop (k+1) b);rw [h3,Uj (a:=a) (b:=b) (by show k<@ln (ah 0) a;omega) (by show k<@ln (ah 0) b;omega),if_pos (by assumption)]
   ·rw [h3,cmpL_e (a:=a) (b:=b) (by show @ln (ah 0) a=k;omega) (by show k<=@ln (ah 0) b;omega),if_pos (by show @ln (ah 0) a<@ln (ah 0) b;omega)]
   ·rw [h3,cmpL_e (a:=a) (b:=b) (by show @ln (ah 0) a=k;omega) (by show k<=@ln (ah 0) b;omega),if_neg (by show ¬ @ln (ah 0) a<@ln (ah 0) b;omega)])
end
end Go.SX
