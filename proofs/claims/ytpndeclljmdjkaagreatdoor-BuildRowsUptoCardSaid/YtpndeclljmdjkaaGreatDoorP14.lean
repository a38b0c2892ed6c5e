/- A part of the proof (texts GPure, B35, B36, GHeap, B38, B39). -/
import Derived.Test.YtpndeclljmdjkaaGreatDoorP10
import Derived.Test.YtpndeclljmdjkaaGreatDoorP12
set_option linter.all false
set_option maxRecDepth 100000
namespace Go.SX
open List renaming getElem?_eq_getElem -> bZ,getD_eq_getElem?_getD -> fI
open Int renaming eq_ofNat_of_zero_le -> cO,toNat_natCast -> bP
open List renaming length -> ln
open Go.XK Go.RowKit
theorem LV {ops:Array Oper} {kd:Nat->Nat} {l:List Nat} {n:Nat} (_:ops.size=n) (h:okX .any ops kd l=true):okX .any ops kd l=true:=h
theorem vcP_len {E:En} {DB:Db E} {N n k:Nat} {ops:Array Oper} {kd:Nat->Nat} {p:Plan} {b:Array Bool} {σ:St} {K:St->Prop} (_:ops.size=n) (h:yL E DB N ops kd p k b σ K):yL E DB N ops kd p k b σ K:=h
theorem pO {c:Nat} {l l':Li c} (h:l=l'):eqL c c l l':=h▸Dh c l
def gi (l:List Int) (k:Int):Int:=l.getD k.toNat 0
structure FS where
 index:List Int
 low:List Int
 stack:List Int
 part:List Int
 parts:Rows
 count:Int
structure GS where
 calls:List bR
 f:FS
def topC (cs:List bR):bR:=cs.getD ((cs.length:Int)-1).toNat ⟨0,0⟩
def uX (f:FS) (v:Int):FS:=⟨f.index.set v.toNat (f.count+1),f.low.set v.toNat (f.count+1),f.stack++[v],f.part,f.parts,f.count+1⟩
def jH (s:List Int) (v:Int):Nat->Nat
 |0=>0
 |k+1=>if s.getD k 0=v then k else jH s v k
def pU (part:List Int) (m:Int) (p:List Int):Nat->List Int
 |0=>part
 |k+1=>(pU part m p k).set (p.getD k 0).toNat m
def jq (f:FS) (v:Int):List Int:=isr (f.stack.drop (jH f.stack v f.stack.length))
def nD (f:FS) (v:Int):FS:=⟨f.index,f.low,f.stack.take (jH f.stack v f.stack.length),pU f.part ((f.parts.length:Int)+1) (jq f v) (jq f v).length,f.parts++[jq f v],f.count⟩
def zN (f:FS) (v x:Int):FS:=⟨f.index,f.low.set v.toNat (min (gi f.low v) x),f.stack,f.part,f.parts,f.count⟩
def tT (cs:List bR) (f:FS) (v:Int):FS:=if 0<cs.length then zN f (topC cs).v (gi f.low v)else f
def LP (cs:List bR) (f:FS) (v:Int):FS:=if gi (tT cs f v).low v=gi (tT cs f v).index v then nD (tT cs f v) v else tT cs f v
def qg (cs:List bR):List bR:=cs.set ((cs.length:Int)-1).toNat ⟨(topC cs).v,(topC cs).i+1⟩
def jv (nx:Rows) (s:GS):Option GS :=
 if 0<s.calls.length then
   if(topC s.calls).i<(aQ nx (topC s.calls).v.toNat).length then
     if gi s.f.index (gi (aQ nx (topC s.calls).v.toNat) (topC s.calls).i)=0 then some ⟨qg s.calls++[⟨gi (aQ nx (topC s.calls).v.toNat) (topC s.calls).i,0⟩],uX s.f (gi (aQ nx (topC s.calls).v.toNat) (topC s.calls).i)⟩
     else if gi s.f.part (gi (aQ nx (topC s.calls).v.toNat) (topC s.calls).i)=0 then some ⟨qg s.calls,zN s.f (topC s.calls).v (gi s.f.index (gi (aQ nx (topC s.calls).v.toNat) (topC s.calls).i))⟩
     else some ⟨qg s.calls,s.f⟩
   else some ⟨s.calls.take (s.calls.length-1),LP (s.calls.take (s.calls.length-1)) s.f (topC s.calls).v⟩
 else none
theorem top_split {cs:List bR} (h:0<cs.length):cs=cs.take (cs.length-1)++[topC cs]:=by
 have e:((cs.length:Int)-1).toNat=cs.length-1:=by omega
 have e2:topC cs=cs[cs.length-1]:=by
   unfold topC;rw [e,fI,bZ au]
   rfl
 have:=List.take_succ_eq_append_getElem (l:=cs) (i:=cs.length-1) au
 rw [show cs.length-1+1=cs.length by omega,List.take_length]at this
 rw [e2];exact this
theorem C8 {cs:List bR} (h:0<cs.length):qg cs=cs.take (cs.length-1)++[⟨(topC cs).v,(topC cs).i+1⟩]:=by
 have e:((cs.length:Int)-1).toNat=cs.length-1:=by omega
 unfold qg;rw [e];apply List.ext_getElem?;intro j;rw [List.getElem?_set]
 by_cases hj:cs.length-1=j
 ·subst hj;rw [if_pos rfl,if_pos au,List.getElem?_append_right (by simp),List.length_take]
  rw [show cs.length-1-min (cs.length-1) cs.length=0 by omega]
  rfl
 ·rw [if_neg hj]
  by_cases hl:j<cs.length-1
  ·rw [List.getElem?_append_left (by simp;omega),List.getElem?_take_of_lt hl]
  ·rw [List.getElem?_eq_none au,List.getElem?_eq_none (by simp;omega)]
theorem sK {l:List Int} {k j x:Int}:gi (l.set k.toNat x) j=if k.toNat=j.toNat/\k.toNat<l.length then x else gi l j:=by
 unfold gi;rw [fI,fI,List.getElem?_set]
 by_cases e:k.toNat=j.toNat
 ·by_cases h:k.toNat<l.length
  ·rw [if_pos e,if_pos h,if_pos ⟨e,h⟩];rfl
  ·rw [if_pos e,if_neg h,if_neg (fun q=>h q.2),<- e,List.getElem?_eq_none au]
 ·rw [if_neg e,if_neg (fun q=>e q.1)]
theorem ny {l:List Int} {k:Int} (h:k.toNat<l.length):gi l k∈l:=by
 unfold gi;rw [fI,bZ h];exact List.getElem_mem h
def wt:List Int->Rows->Nat
 |x::xs,r::rs=>(if x=0 then r.length+2 else 0)+wt xs rs
 |_,_=>0
theorem WV:∀ (l:List Int) (nx:Rows) (k:Nat) (x:Int),k<l.length->k<nx.length->l.getD k 0=0->x≠0->wt (l.set k x) nx+(nx.getD k []).length+2=wt l nx
 |[],_,_,_,h,_,_,_=>absurd h (Nat.not_lt_zero _)
 |_::_,[],_,_,_,h,_,_=>absurd h (Nat.not_lt_zero _)
 |y::l,r::nx,0,x,_,_,h,hx=>by
   have h:y=0:=h;subst h;show(if x=0 then r.length+2 else 0)+wt l nx+r.length+2=(if(0:Int)=0 then r.length+2 else 0)+wt l nx
   rw [if_neg hx,if_pos rfl];omega
 |y::l,r::nx,k+1,x,h1,h2,h,hx=>by
   have ih:=WV l nx k x (by simpa using h1) (by simpa using h2) h hx
   show(if y=0 then r.length+2 else 0)+wt (l.set k x) nx+(nx.getD k []).length+2=(if y=0 then r.length+2 else 0)+wt l nx
   omega
def cw (nx:Rows) (cs:List bR):Nat:=(cs.map fun c=>(aQ nx c.v.toNat).length+1-c.i.toNat).sum
theorem MO (nx:Rows) (a b:List bR):cw nx (a++b)=cw nx a+cw nx b:=by simp [cw]
def yB (nx:Rows) (s:GS):Nat:=wt s.f.index nx+cw nx s.calls
def vis (l:List Int):Nat:=l.countP fun x=>decide (x≠0)
theorem RP {l:List Int} {k:Nat} {x:Int} (h:k<l.length) (h0:l.getD k 0=0) (hx:x≠0):vis (l.set k x)=vis l+1:=by
 induction l generalizing k with
 |nil=>exact absurd h (Nat.not_lt_zero _)
 |cons y l ih =>
   cases k with
   |zero =>
     have h0:y=0:=h0;subst h0;simp [vis,hx]
   |succ k =>
     have:=ih (k:=k) (by simpa using h) h0
     simp only [vis,List.set_cons_succ,List.countP_cons]at this ⊢;omega
theorem KW (l:List Int):vis l<=l.length:=List.countP_le_length
theorem Lg {s:List Int} {v:Int}:∀ {k:Nat},k<=s.length->v∈s.take k->jH s v k<k/\s[jH s v k]?=some v/\∀ j,jH s v k<j->j<k->s[j]?≠some v
 |0,_,h=>by simp at h
 |k+1,hk,h=>by
   have hg:s.getD k 0=s[k]:=by rw [fI,bZ au];rfl
   rw [jH,hg];split
   ·rename_i e;refine⟨au,by rw [bZ au,e],fun j h1 h2=>by omega⟩
   ·rename_i e
    have hm:v∈s.take k:=by
      rw [List.take_succ_eq_append_getElem au]at h
      rcases List.mem_append.1 h with h|h
      ·exact h
      ·simp only [List.mem_singleton]at h;exact absurd h.symm e
    obtain⟨h1,h2,h3⟩:=Lg (s:=s) (v:=v) (k:=k) au hm
    refine⟨au,h2,fun j h4 h5=>?_⟩
    by_cases hj:j<k
    ·exact h3 j h4 hj
    ·have:j=k:=by omega
     subst this;rw [bZ au]
     intro q;exact e (Option.some.inj q)
def wV (s:List Int) (v:Int) (k:Nat):Prop:=v∈s.take k
theorem Ow {s:List Int} {v:Int} (h:v∈s):wV s v s.length:=by unfold wV;rw [List.take_length];exact h
theorem XY {s:List Int} {v:Int} {k:Nat} (hq:s.getD k 0=v):jH s v (k+1)=k:=by
 rw [jH,if_pos hq]
theorem U3 {s:List Int} {v:Int} {k:Nat} (hk:k<s.length) (h3:wV s v (k+1)) (hq:¬ s.getD k 0=v):1<=k/\wV s v k/\jH s v (k+1)=jH s v k:=by
 unfold wV at h3 ⊢;rw [List.take_succ_eq_append_getElem hk]at h3;rw [fI,bZ hk]at hq;rw [jH,fI,bZ hk,if_neg hq];rcases List.mem_append.1 h3 with h3|h3
 ·refine⟨?_,h3,rfl⟩
  cases k with
  |zero=>rw [List.take_zero]at h3;cases h3
  |succ k=>omega
 ·exact absurd (List.mem_singleton.1 h3).symm hq
theorem XD {l:List Int} {k n:Nat} (h:l.length<=n+k):List.take n (List.drop k l)=List.drop k l:=by
 rw [List.take_of_length_le];rw [List.length_drop];omega
theorem XE {cs s:List Int} {v:Int} (h:(cs++[v]).Sublist s):cs.Sublist (s.take (jH s v s.length))/\v∈s:=by
 obtain⟨s1,s2,rfl,h1,h2⟩:=List.append_sublist_iff.1 h;have hv:v∈s2:=h2.subset (List.mem_singleton.2 rfl);have hv2:v∈(s1++s2).take (s1++s2).length:=by rw [List.take_length];exact List.mem_append_right _ hv
 obtain⟨q1,q2,q3⟩:=Lg (Nat.le_refl _) hv2;refine⟨?_,List.mem_append_right _ hv⟩;obtain⟨j,hj,e⟩:=List.getElem_of_mem hv
 have hle:s1.length<=jH (s1++s2) v (s1++s2).length:=by
   by_cases hc:s1.length+j<=jH (s1++s2) v (s1++s2).length
   ·omega
   ·refine absurd ?_ (q3 (s1.length+j) au (by simp;omega))
    rw [List.getElem?_append_right au,show s1.length+j-s1.length=j by omega,bZ hj,e]
 rw [List.take_append,List.take_of_length_le hle];exact h1.trans (List.sublist_append_left _ _)
theorem Mi (part:List Int) (m:Int) (p:List Int):∀ k,(pU part m p k).length=part.length
 |0=>rfl
 |k+1=>(List.length_set ..).trans (Mi part m p k)
theorem Y8 {part:List Int} {m:Int} {p:List Int} (hp:∀ w∈p,0<=w/\w<part.length) {v:Int} (hv:0<=v):∀ k,k<=p.length->gi (pU part m p k) v=if v∈p.take k then m else gi part v
 |0,_=>by simp [pU]
 |k+1,hk=>by
   have hg:p.getD k 0=p[k]:=by rw [fI,bZ au];rfl
   have hpk:=hp p[k] (List.getElem_mem _);rw [pU,hg,sK,Mi,Y8 hp hv k au,List.take_succ_eq_append_getElem au]
   by_cases e:v=p[k]
   ·subst e;rw [if_pos ⟨rfl,au⟩,if_pos (List.mem_append_right _ (List.mem_singleton.2 rfl))]
   ·rw [if_neg (fun q=>e au)]
    by_cases hm:v∈p.take k
    ·rw [if_pos hm,if_pos (List.mem_append_left _ hm)]
    ·rw [if_neg hm,if_neg (fun q=>(List.mem_append.1 q).elim hm fun q=>e (List.mem_singleton.1 q))]
theorem Ms {l:List Int} {x:Int}:x∈isr l↔x∈l:=List.mem_mergeSort
theorem TA (l:List Int):(isr l).length=l.length:=List.length_mergeSort ..
theorem close_eq {index low:List Int} {count:Int} {stack part:List Int} {parts:Rows} {v:Int} {k:Nat} (hk:k<stack.length) (hsc:jH stack v stack.length=k):isr ([]++List.take ((stack.length:Int)-k).toNat (List.drop (k:Int).toNat stack))=jq ⟨index,low,stack,part,parts,count⟩ v:=by
 unfold jq;rw [hsc,bP,List.nil_append,XD];omega
theorem V5 {index low:List Int} {count:Int} {P stack part:List Int} {parts:Rows} {v N:Int} (hP:P=jq ⟨index,low,stack,part,parts,count⟩ v) (hr:∀ w,wV stack w stack.length->0<=w/\w<N) (j:Nat) (hj:j<P.length):0<=gi P j/\gi P j<N:=by
 refine hr _ ?_;unfold wV;rw [List.take_length];have hm:gi P j∈P:=ny (by simpa using hj)
 rw [hP]at hm ⊢;exact List.mem_of_mem_drop (Ms.1 hm)
theorem V6 {index low:List Int} {count:Int} {P stack part:List Int} {parts:Rows} {v:Int} (hP:P=jq ⟨index,low,stack,part,parts,count⟩ v):P.length<=stack.length:=by
 rw [hP];unfold jq;rw [TA,List.length_drop];exact Nat.sub_le _ _
theorem V7 {index low:List Int} {count:Int} {P stack part:List Int} {parts:Rows} {v:Int} {k:Nat} (hsc:jH stack v stack.length=k) (hP:P=jq ⟨index,low,stack,part,parts,count⟩ v) :
   List.take ((k:Int).toNat-0) (List.drop 0 stack)=(nD ⟨index,low,stack,part,parts,count⟩ v).stack/\pU part ((parts++[P]).length:Nat) P P.length=(nD ⟨index,low,stack,part,parts,count⟩ v).part/\parts++[P]=(nD ⟨index,low,stack,part,parts,count⟩ v).parts:=by
 unfold nD;rw [hsc,<- hP];refine⟨rfl,?_,rfl⟩;rw [List.length_append];rfl
structure qp (nx:Rows) (n:Nat):Prop where
 len:nx.length=n
 el:∀ r∈nx,∀ w∈r,0<=w/\w<n
theorem qp.row {nx:Rows} {n:Nat} (h:qp nx n) (v:Nat):∀ w∈aQ nx v,0<=w/\w<n:=by
 unfold aQ;rw [fI]
 by_cases hv:v<nx.length
 ·rw [bZ hv];exact h.el _ (List.getElem_mem hv)
 ·rw [List.getElem?_eq_none au]
  intro w hw;cases hw
structure FOk (nx:Rows) (n:Nat) (j4:List Int) (f:FS):Prop where
 li:f.index.length=n
 ll:f.low.length=n
 lp:f.part.length=n
 cnt:f.count=(vis f.index:Nat)
 stk:f.stack.length<=vis f.index
 sr:∀ v∈f.stack,0<=v/\v<n
 p0:∀ v:Int,0<=v->v<n->0<=gi f.part v/\gi f.part v<=f.parts.length
 pn:∀ p∈f.parts,p≠[]/\∀ w∈p,0<=w/\w<n
 seen:∀ v:Int,0<=v->v<n->gi f.index v≠0->1<=gi f.part v\/v∈f.stack
 nd:f.stack.Nodup
 ile:∀ v:Int,0<=v->v<n->gi f.index v<=f.count
 mono:∀ v:Int,0<=v->v<n->gi j4 v≠0->gi f.index v≠0
structure Dv (nx:Rows) (n:Nat) (j4:List Int) (root R:Int) (s:GS):Prop extends FOk nx n j4 s.f where
 R1:1<=R
 cl:s.calls.length+s.f.parts.length<=vis s.f.index
 cv:∀ c∈s.calls,0<=c.v/\c.v<n/\0<=c.i/\c.i<=(aQ nx c.v.toNat).length
 sub:(s.calls.map fun c=>c.v).Sublist s.f.stack
 sv:∀ v∈s.f.stack,R<=gi s.f.index v/\R<=gi s.f.low v
 hd:s.calls≠[]->(s.calls.map fun c=>c.v).head? = some root/\s.f.stack.head? = some root
 rt:0<=root/\root<n/\gi s.f.index root=R/\gi s.f.low root<=R
 fin:s.calls=[]->s.f.stack=[]
section
variable {nx:Rows} {n:Nat} {j4:List Int} {root R:Int}
theorem Zk {s:GS} (h:Dv nx n j4 root R s) {v x:Int} (hv:v∈s.f.stack) (hx:R<=x):Dv nx n j4 root R ⟨s.calls,zN s.f v x⟩:=by
 have hr:=h.sr v hv;have hl:=h.ll
 have key:∀ u:Int,0<=u->gi (zN s.f v x).low u=if u=v then min (gi s.f.low v) x else gi s.f.low u:=fun u hu=>by
   show gi (s.f.low.set v.toNat _) u=_;rw [sK]
   by_cases e:u=v
   ·subst e;rw [if_pos ⟨rfl,au⟩,if_pos rfl]
   ·rw [if_neg (fun q=>e au),if_neg e]
 refine⟨⟨h.li,by show(s.f.low.set _ _).length=n;rw [List.length_set];exact hl,h.lp,h.cnt,h.stk,h.sr,h.p0,h.pn,h.seen,h.nd,h.ile,h.mono⟩,h.R1,h.cl,h.cv,h.sub,fun u hu=>⟨(h.sv u hu).1,?_⟩,h.hd,⟨h.rt.1,h.rt.2.1,h.rt.2.2.1,?_⟩,h.fin⟩
 ·rw [key u (h.sr u hu).1];have:=(h.sv u hu).2;have:=(h.sv v hv).2;split
  ·exact Int.le_min.2 ⟨by assumption,hx⟩
  ·assumption
 ·rw [key root h.rt.1];have:=h.rt.2.2.2;split
  ·rename_i e;subst e;exact Int.le_trans (Int.min_le_left _ _) this
  ·exact this
theorem top_mem {s:GS} (h:Dv nx n j4 root R s) (hc:0<s.calls.length):topC s.calls∈s.calls:=by
 have:=top_split hc;rw [this];exact List.mem_append_right _ (by rw [<- this];exact List.mem_singleton.2 rfl)
theorem top_stack {s:GS} (h:Dv nx n j4 root R s) (hc:0<s.calls.length):(topC s.calls).v∈s.f.stack:=h.sub.subset (List.mem_map.2 ⟨_,top_mem h hc,rfl⟩)
theorem inc_ok {s:GS} (h:Dv nx n j4 root R s) (hc:0<s.calls.length) (hi:(topC s.calls).i<(aQ nx (topC s.calls).v.toNat).length):Dv nx n j4 root R ⟨qg s.calls,s.f⟩/\cw nx (qg s.calls)<cw nx s.calls:=by
 have e1:=top_split hc;have e2:=C8 hc;have hcv:=h.cv _ (top_mem h hc);generalize hcs:s.calls.take (s.calls.length-1)=cs0 at e1 e2;generalize hcc:topC s.calls=c at e1 e2 hcv hi;have hmap:(qg s.calls).map (fun c=>c.v)=s.calls.map fun c=>c.v:=by rw [e2,e1];simp
 have hlen:(qg s.calls).length=s.calls.length:=by rw [e2,e1];simp
 refine⟨⟨h.toFOk,h.R1,by show(qg s.calls).length+_<=_;rw [hlen];exact h.cl,fun d hd=>?_,by show((qg s.calls).map _).Sublist _;rw [hmap];exact h.sub,h.sv,fun hne=>?_,h.rt,fun he=>?_⟩,?_⟩
 ·have hd:d∈qg s.calls:=hd;rw [e2]at hd;rcases List.mem_append.1 hd with hd|hd
  ·exact h.cv d (by rw [e1];exact List.mem_append_left _ hd)
  ·cases List.mem_singleton.1 hd;exact⟨hcv.1,hcv.2.1,by show 0<=c.i+1;omega,by show c.i+1<=((aQ nx c.v.toNat).length:Int);omega⟩
 ·show((qg s.calls).map _).head? = _/\_;rw [hmap];exact h.hd (fun e=>by rw [e]at hc;simp at hc)
 ·have he:qg s.calls=[]:=he;rw [e2]at he;simp at he
 ·rw [e2,e1,MO,MO];have:(c.i+1).toNat=c.i.toNat+1:=by omega
  simp only [cw,List.map_cons,List.map_nil,List.sum_cons,List.sum_nil,this];omega
theorem enter_ok {s:GS} (hx:qp nx n) (h:Dv nx n j4 root R s) (hc:0<s.calls.length) {w:Int} (hw:0<=w/\w<n) (h0:gi s.f.index w=0):Dv nx n j4 root R ⟨s.calls++[⟨w,0⟩],uX s.f w⟩/\yB nx ⟨s.calls++[⟨w,0⟩],uX s.f w⟩<yB nx s:=by
 have hcnt:=h.cnt;have hne:s.f.count+1≠0:=by omega
 have hwi:w.toNat<s.f.index.length:=by rw [h.li];omega
 have hwl:w.toNat<s.f.low.length:=by rw [h.ll];omega
 have hv:vis (s.f.index.set w.toNat (s.f.count+1))=vis s.f.index+1:=RP hwi h0 hne
 have ki:∀ u:Int,0<=u->gi (s.f.index.set w.toNat (s.f.count+1)) u=if u=w then s.f.count+1 else gi s.f.index u:=fun u hu=>by
   rw [sK]
   by_cases e:u=w
   ·subst e;rw [if_pos ⟨rfl,hwi⟩,if_pos rfl]
   ·rw [if_neg (fun q=>e au),if_neg e]
 have kl:∀ u:Int,0<=u->gi (s.f.low.set w.toNat (s.f.count+1)) u=if u=w then s.f.count+1 else gi s.f.low u:=fun u hu=>by
   rw [sK]
   by_cases e:u=w
   ·subst e;rw [if_pos ⟨rfl,hwl⟩,if_pos rfl]
   ·rw [if_neg (fun q=>e au),if_neg e]
 have hns:w ∉ s.f.stack:=fun hm=>by
   have:=(h.sv w hm).1;have:=h.R1;omega
 have hRc:R<=s.f.count:=by
   have:=h.ile root h.rt.1 h.rt.2.1;rw [h.rt.2.2.1]at this;exact this
 have hcl:s.calls≠[]:=fun e=>by rw [e]at hc;simp at hc
 obtain⟨hd1,hd2⟩:=h.hd hcl;refine⟨⟨⟨?_,?_,h.lp,?_,?_,?_,h.p0,h.pn,?_,?_,?_,?_⟩,h.R1,?_,?_,?_,?_,?_,⟨h.rt.1,h.rt.2.1,?_,?_⟩,?_⟩,?_⟩
 ·show(s.f.index.set _ _).length=n;rw [List.length_set];exact h.li
 ·show(s.f.low.set _ _).length=n;rw [List.length_set];exact h.ll
 ·show s.f.count+1=(vis (s.f.index.set _ _):Nat);rw [hv];omega
 ·show(s.f.stack++[w]).length<=vis (s.f.index.set _ _);rw [hv];have:=h.stk;simp;omega
 ·intro v hv';rcases List.mem_append.1 hv' with hv'|hv'
  ·exact h.sr v hv'
  ·cases List.mem_singleton.1 hv';exact hw
 ·intro v h1 h2 h3;have h3:gi (s.f.index.set w.toNat (s.f.count+1)) v≠0:=h3;rw [ki v h1]at h3
  by_cases e:v=w
  ·subst e;exact .inr (List.mem_append_right _ (List.mem_singleton.2 rfl))
  ·rw [if_neg e]at h3;exact(h.seen v h1 h2 h3).imp id (List.mem_append_left _)
 ·show(s.f.stack++[w]).Nodup;rw [List.nodup_append];exact⟨h.nd,by simp,fun a ha b hb=>by cases List.mem_singleton.1 hb;exact fun e=>hns (e▸ha)⟩
 ·intro v h1 h2;show gi (s.f.index.set w.toNat (s.f.count+1)) v<=s.f.count+1;rw [ki v h1];have:=h.ile v h1 h2;split<;>omega
 ·intro v h1 h2 h3;show gi (s.f.index.set w.toNat (s.f.count+1)) v≠0;rw [ki v h1];have:=h.mono v h1 h2 h3;split<;>assumption
 ·show(s.calls++[(⟨w,0⟩:bR)]).length+s.f.parts.length<=vis (s.f.index.set _ _);rw [hv];have:=h.cl;simp;omega
 ·intro c hcm;rcases List.mem_append.1 hcm with hcm|hcm
  ·exact h.cv c hcm
  ·cases List.mem_singleton.1 hcm;exact⟨hw.1,hw.2,Int.le_refl _,Int.natCast_nonneg _⟩
 ·show((s.calls++[(⟨w,0⟩:bR)]).map fun c=>c.v).Sublist (s.f.stack++[w])
  rw [List.map_append];exact List.Sublist.append h.sub (List.Sublist.refl _)
 ·intro v hv';show R<=gi (s.f.index.set w.toNat (s.f.count+1)) v/\R<=gi (s.f.low.set w.toNat (s.f.count+1)) v;rcases List.mem_append.1 hv' with hv'|hv'
  ·have hvw:v≠w:=fun e=>hns (e▸hv')
   rw [ki v (h.sr v hv').1,kl v (h.sr v hv').1,if_neg hvw,if_neg hvw];exact h.sv v hv'
  ·cases List.mem_singleton.1 hv';rw [ki _ hw.1,kl _ hw.1,if_pos rfl,if_pos rfl];omega
 ·intro _;show((s.calls++[(⟨w,0⟩:bR)]).map fun c=>c.v).head? = some root/\(s.f.stack++[w]).head? = some root
  rw [List.map_append,List.head?_append,List.head?_append,hd1,hd2];exact⟨rfl,rfl⟩
 ·show gi (s.f.index.set w.toNat (s.f.count+1)) root=R;have hrw:root≠w:=fun e=>by have:=h.rt.2.2.1;have:=h.R1;rw [e]at *;omega
  rw [ki root h.rt.1,if_neg hrw];exact h.rt.2.2.1
 ·show gi (s.f.low.set w.toNat (s.f.count+1)) root<=R;have hrw:root≠w:=fun e=>by have:=h.rt.2.2.1;have:=h.R1;rw [e]at *;omega
  rw [kl root h.rt.1,if_neg hrw];exact h.rt.2.2.2
 ·intro e;have e:s.calls++[(⟨w,0⟩:bR)]=[]:=e;simp at e
 ·show wt (s.f.index.set w.toNat (s.f.count+1)) nx+cw nx (s.calls++[⟨w,0⟩])<wt s.f.index nx+cw nx s.calls;have hq:=WV s.f.index nx w.toNat (s.f.count+1) hwi (by rw [hx.len];omega) h0 hne
  rw [MO];have e:cw nx [(⟨w,0⟩:bR)]=(nx.getD w.toNat []).length+1:=by simp [cw,aQ]
  rw [e];omega
theorem Nv (hx:qp nx n) {f:FS} (h:FOk nx n j4 f) (hs:f.stack=[]) (hp:f.parts.length<=vis f.index) (hw:0<=root/\root<n) (h0:gi f.index root=0):Dv nx n j4 root (f.count+1) ⟨[⟨root,0⟩],uX f root⟩:=by
 have hcnt:=h.cnt;have hne:f.count+1≠0:=by omega
 have hwi:root.toNat<f.index.length:=by rw [h.li];omega
 have hwl:root.toNat<f.low.length:=by rw [h.ll];omega
 have hv:vis (f.index.set root.toNat (f.count+1))=vis f.index+1:=RP hwi h0 hne
 have ki:∀ u:Int,0<=u->gi (f.index.set root.toNat (f.count+1)) u=if u=root then f.count+1 else gi f.index u:=fun u hu=>by
   rw [sK]
   by_cases e:u=root
   ·subst e;rw [if_pos ⟨rfl,hwi⟩,if_pos rfl]
   ·rw [if_neg (fun q=>e au),if_neg e]
 have kl:∀ u:Int,0<=u->gi (f.low.set root.toNat (f.count+1)) u=if u=root then f.count+1 else gi f.low u:=fun u hu=>by
   rw [sK]
   by_cases e:u=root
   ·subst e;rw [if_pos ⟨rfl,hwl⟩,if_pos rfl]
   ·rw [if_neg (fun q=>e au),if_neg e]
 have hst:f.stack++[root]=[root]:=by rw [hs];rfl
 refine⟨⟨?_,?_,h.lp,?_,?_,?_,h.p0,h.pn,?_,?_,?_,?_⟩,au,?_,?_,?_,?_,?_,⟨hw.1,hw.2,?_,?_⟩,?_⟩
 ·show(f.index.set _ _).length=n;rw [List.length_set];exact h.li
 ·show(f.low.set _ _).length=n;rw [List.length_set];exact h.ll
 ·show f.count+1=(vis (f.index.set _ _):Nat);rw [hv];omega
 ·show(f.stack++[root]).length<=vis (f.index.set _ _);rw [hv,hst];simp
 ·intro v hv';have hv':v∈f.stack++[root]:=hv';rw [hst]at hv';cases List.mem_singleton.1 hv';exact hw
 ·intro v h1 h2 h3;have h3:gi (f.index.set root.toNat (f.count+1)) v≠0:=h3;rw [ki v h1]at h3
  by_cases e:v=root
  ·subst e;exact .inr (List.mem_append_right _ (List.mem_singleton.2 rfl))
  ·rw [if_neg e]at h3;exact(h.seen v h1 h2 h3).imp id (List.mem_append_left _)
 ·show(f.stack++[root]).Nodup;rw [hst];simp
 ·intro v h1 h2;show gi (f.index.set root.toNat (f.count+1)) v<=f.count+1;rw [ki v h1];have:=h.ile v h1 h2;split<;>omega
 ·intro v h1 h2 h3;show gi (f.index.set root.toNat (f.count+1)) v≠0;rw [ki v h1];have:=h.mono v h1 h2 h3;split<;>assumption
 ·show 1+f.parts.length<=vis (f.index.set _ _);rw [hv];omega
 ·intro c hcm;cases List.mem_singleton.1 hcm;exact⟨hw.1,hw.2,Int.le_refl _,Int.natCast_nonneg _⟩
 ·show [root].Sublist (f.stack++[root]);rw [hst];exact List.Sublist.refl _
 ·intro v hv';have hv':v∈f.stack++[root]:=hv';rw [hst]at hv';cases List.mem_singleton.1 hv';show _<=gi (f.index.set root.toNat (f.count+1)) root/\_<=gi (f.low.set root.toNat (f.count+1)) root;rw [ki _ hw.1,kl _ hw.1,if_pos rfl,if_pos rfl];exact⟨Int.le_refl _,Int.le_refl _⟩
 ·intro _;show [root].head? = some root/\(f.stack++[root]).head? = some root;rw [hst];exact⟨rfl,rfl⟩
 ·show gi (f.index.set root.toNat (f.count+1)) root=_;rw [ki root hw.1,if_pos rfl]
 ·show gi (f.low.set root.toNat (f.count+1)) root<=_;rw [kl root hw.1,if_pos rfl];exact Int.le_refl _
 ·intro e;cases e
theorem pop_ok {s:GS} (h:Dv nx n j4 root R s) (hc:0<s.calls.length) (hi:¬ (topC s.calls).i<(aQ nx (topC s.calls).v.toNat).length) :
   Dv nx n j4 root R ⟨s.calls.take (s.calls.length-1),LP (s.calls.take (s.calls.length-1)) s.f (topC s.calls).v⟩/\yB nx ⟨s.calls.take (s.calls.length-1),LP (s.calls.take (s.calls.length-1)) s.f (topC s.calls).v⟩<yB nx s:=by
 have e1:=top_split hc;have hcv:=h.cv _ (top_mem h hc);have hvs:=top_stack h hc;have TM:(s.calls.take (s.calls.length-1)).length=s.calls.length-1:=by simp
 generalize hcs:s.calls.take (s.calls.length-1)=cs0 at e1 TM;generalize hcc:topC s.calls=c at e1 hcv hi hvs;have hmap:(s.calls.map fun c=>c.v)=(cs0.map fun c=>c.v)++[c.v]:=by rw [e1];simp
 have h1:Dv nx n j4 root R ⟨s.calls,tT cs0 s.f c.v⟩:=by
   unfold tT;split
   ·rename_i h0;refine Zk h (h.sub.subset ?_) (h.sv _ hvs).2;rw [hmap];refine List.mem_append_left _ (List.mem_map.2 ⟨topC cs0,?_,rfl⟩);have e2:=top_split h0;rw [e2];exact List.mem_append_right _ (by rw [<- e2];exact List.mem_singleton.2 rfl)
   ·exact h
 have hidx:(tT cs0 s.f c.v).index=s.f.index:=by unfold tT;split<;>rfl
 generalize hf:tT cs0 s.f c.v=f1 at h1 hidx
 have hvs1:c.v∈f1.stack:=by
   have:c.v∈(s.calls.map fun c=>c.v):=by rw [hmap];exact List.mem_append_right _ (List.mem_singleton.2 rfl)
   exact h1.sub.subset this
 have hsub:((cs0.map fun c=>c.v)++[c.v]).Sublist f1.stack:=by rw [<- hmap];exact h1.sub
 have hne:s.calls≠[]:=fun e=>by rw [e]at hc;simp at hc
 obtain⟨hd1,hd2⟩:=h1.hd hne;have hd1:((cs0.map fun c=>c.v)++[c.v]).head? = some root:=by rw [<- hmap];exact hd1
 have hd2:f1.stack.head? = some root:=hd2
 have hhead:cs0≠[]->(cs0.map fun c=>c.v).head? = some root:=fun hq=>by
   rw [List.head?_append]at hd1
   cases hm:(cs0.map fun c=>c.v).head? with
   |none =>
     rw [List.head?_eq_none_iff,List.map_eq_nil_iff]at hm;exact absurd hm hq
   |some x=>rw [hm]at hd1;exact hd1
 have hroot:cs0=[]->c.v=root:=fun hq=>by
   rw [hq]at hd1;exact Option.some.inj hd1
 have hmu:∀ f:FS,f.index=s.f.index->yB nx ⟨cs0,f⟩<yB nx s:=fun f hfi=>by
   show wt f.index nx+cw nx cs0<wt s.f.index nx+cw nx s.calls;rw [hfi,e1,MO];have:cw nx [c]=(aQ nx c.v.toNat).length+1-c.i.toNat:=by simp [cw]
   have:=hcv.2.2;omega
 have hlen:s.calls.length=cs0.length+1:=by rw [e1];simp
 have hcl:=h1.cl;have hcl:s.calls.length+f1.parts.length<=vis f1.index:=hcl;unfold LP;rw [hf];split
 ·
   obtain⟨t1,t2⟩:=XE hsub;have hm2:c.v∈f1.stack.take f1.stack.length:=by rw [List.take_length];exact t2
   obtain⟨q1,q2,q3⟩:=Lg (Nat.le_refl _) hm2;generalize hi0:jH f1.stack c.v f1.stack.length=i0 at t1 q1 q2 q3;have hP:jq f1 c.v=isr (f1.stack.drop i0):=by unfold jq;rw [hi0]
   have hPr:∀ w∈jq f1 c.v,0<=w/\w<f1.part.length:=fun w hw=>by
     rw [hP]at hw;have hlp:f1.part.length=n:=h1.lp;rw [hlp];exact h1.sr w (List.mem_of_mem_drop (Ms.1 hw))
   have hmk:∀ v:Int,0<=v->gi (pU f1.part ((f1.parts.length:Int)+1) (jq f1 c.v) (jq f1 c.v).length) v=if v∈jq f1 c.v then(f1.parts.length:Int)+1 else gi f1.part v:=fun v hv=>by
     rw [Y8 hPr hv _ (Nat.le_refl _),List.take_length]
   have hst:(nD f1 c.v).stack=f1.stack.take i0:=by unfold nD;rw [hi0]
   have hFS:nD f1 c.v=⟨f1.index,f1.low,f1.stack.take i0,pU f1.part ((f1.parts.length:Int)+1) (jq f1 c.v) (jq f1 c.v).length,f1.parts++[jq f1 c.v],f1.count⟩:=by unfold nD;rw [hi0]
   rw [hFS];refine⟨⟨⟨h1.li,h1.ll,(Mi ..).trans h1.lp,h1.cnt,?_,fun v hv=>h1.sr v (List.mem_of_mem_take hv),?_,?_,?_,h1.nd.sublist (List.take_sublist _ _),h1.ile,h1.mono⟩,h1.R1,?_,fun d hd=>h1.cv d (by rw [e1];exact List.mem_append_left _ hd),t1,fun v hv=>h1.sv v (List.mem_of_mem_take hv),?_,h1.rt,?_⟩,hmu _ hidx⟩
   ·show(f1.stack.take i0).length<=vis f1.index;have:=h1.stk;have:f1.stack.length<=vis f1.index:=this;simp;omega
   ·intro v h2 h3;show 0<=gi (pU ..) v/\gi (pU ..) v<=((f1.parts++[jq f1 c.v]).length:Nat);rw [hmk v h2];have:=h1.p0 v h2 h3;have:0<=gi f1.part v/\gi f1.part v<=f1.parts.length:=this;rw [List.length_append];split
    ·simp;omega
    ·simp;omega
   ·intro p hp;rcases List.mem_append.1 hp with hp|hp
    ·exact h1.pn p hp
    ·cases List.mem_singleton.1 hp;refine⟨fun e=>?_,fun w hw=>?_⟩
     ·have:=TA (f1.stack.drop i0);rw [<- hP,e]at this;simp at this;omega
     ·have hlp:f1.part.length=n:=h1.lp;have:=hPr w hw;rw [hlp]at this;exact this
   ·intro v h2 h3 h4;show 1<=gi (pU ..) v\/v∈f1.stack.take i0;rw [hmk v h2];rcases h1.seen v h2 h3 h4 with h5|h5
    ·have h5:1<=gi f1.part v:=h5;left;split<;>omega
    ·have h5:v∈f1.stack:=h5;rw [<- List.take_append_drop i0 f1.stack]at h5;rcases List.mem_append.1 h5 with h5|h5
     ·exact .inr h5
     ·left;rw [if_pos (by rw [hP];exact Ms.2 h5)]
      omega
   ·show cs0.length+(f1.parts++[jq f1 c.v]).length<=vis f1.index;simp;omega
   ·intro hq;refine⟨hhead hq,?_⟩;show(f1.stack.take i0).head? = some root
    cases i0 with
    |zero =>
      rw [List.take_zero]at t1;have:=List.eq_nil_of_sublist_nil t1;rw [List.map_eq_nil_iff]at this;exact absurd this hq
    |succ k=>rw [List.head?_take,if_neg au];exact hd2
   ·intro hq;have hr:=hroot hq
    have hz:i0=0:=by
      rw [List.head?_eq_getElem?]at hd2;rw [hr]at q2;exact(List.getElem?_inj au h1.nd).1 (q2.trans hd2.symm)
    show f1.stack.take i0=[];rw [hz];rfl
 ·rename_i hnc;refine⟨⟨h1.toFOk,h1.R1,?_,fun d hd=>h1.cv d (by rw [e1];exact List.mem_append_left _ hd),(List.sublist_append_left _ _).trans hsub,h1.sv,fun hq=>⟨hhead hq,hd2⟩,h1.rt,fun hq=>?_⟩,hmu _ hidx⟩
  ·show cs0.length+f1.parts.length<=vis f1.index;omega
  ·refine absurd ?_ hnc;have hr:=hroot hq;have a1:=(h1.sv _ hvs1).2;have a1:R<=gi f1.low c.v:=a1;have a2:=h1.rt.2.2;have a2:gi f1.index root=R/\gi f1.low root<=R:=a2;rw [hr]at a1 ⊢;omega
theorem step_ok (hx:qp nx n) {s s':GS} (h:Dv nx n j4 root R s) (hs:jv nx s=some s'):Dv nx n j4 root R s'/\yB nx s'<yB nx s:=by
 unfold jv at hs;split at hs
 ·rename_i hc;split at hs
  ·rename_i hi;obtain⟨h1,h2⟩:=inc_ok h hc hi;have hcv:=h.cv _ (top_mem h hc);have hw:=hx.row (topC s.calls).v.toNat (gi (aQ nx (topC s.calls).v.toNat) (topC s.calls).i) (ny au)
   have hlen:0<(qg s.calls).length:=by rw [C8 hc];simp
   split at hs
   ·rename_i h0;cases hs;obtain⟨h3,h4⟩:=enter_ok hx h1 hlen hw h0;exact⟨h3,Nat.lt_trans h4 (Nat.add_lt_add_left h2 _)⟩
   ·rename_i h0;split at hs
    ·rename_i hp;cases hs
     have hst:gi (aQ nx (topC s.calls).v.toNat) (topC s.calls).i∈s.f.stack:=by
       rcases h.seen _ hw.1 hw.2 h0 with h5|h5
       ·omega
       ·exact h5
     exact⟨Zk h1 (top_stack h hc) (h.sv _ hst).1,Nat.add_lt_add_left h2 _⟩
    ·cases hs;exact⟨h1,Nat.add_lt_add_left h2 _⟩
  ·rename_i hi;cases hs;exact pop_ok h hc hi
 ·cases hs
end
set_option maxHeartbeats 40000000
noncomputable def I_Fc:je E0:=kC 360 Proofs.Tryz.f360 rfl rfl
theorem OE {zn z1 z2 z3 z4 z5:Option Bool} {nx:Li 34} {index low stack part:Li 0} {count:Int} {parts:Li 34} {v:Int} (hv:wV stack v (List.length (α:=Int) stack)) (hs:@ln (ah 0) stack<=262144) (hp:@ln (ah 34) parts<=262144) (hr:∀ w:Int,wV stack w (List.length (α:=Int) stack)->0<=w/\w<(@ln (ah 0) part:Nat)):HC E0 399 6 [.loc 0 0,.i v] [(0,.row 429 [.aW zn 34 nx,.bT 1,.bT 2,.bT 3,.bT 4,.bT 5]),(1,.arr 3 z1 0 index),(2,.arr 3 z2 0 low),(3,.arr 3 z3 0 stack),(4,.arr 3 z4 0 part),(5,.arr 33 z5 34 parts)] (fun s H n=>s=.jm []/\H=[(0,.row 429 [.aW zn 34 nx,.bT 1,.bT 2,.bT 6,.bT 4,.bT 7]),(1,.arr 3 z1 0 index),(2,.arr 3 z2 0 low),(6,.arr 3 none 0 (nD ⟨index,low,stack,part,parts,count⟩ v).stack),(4,.arr 3 none 0 (nD ⟨index,low,stack,part,parts,count⟩ v).part),(7,.arr 33 none 34 (nD ⟨index,low,stack,part,parts,count⟩ v).parts)]/\n=8):=by
 refine dG (DB:=[]) (IL:=[I_Fc]) (WL:=[]) (fn:=Proofs.Tryz.f399) rfl rfl rfl rfl (by unfold dA;kernel_rfl) (fun hk=>?_)
 simp only [know]at hk
 repeat' first|(refine w_ ?_;first|(apply aP;focus (first|exact hL _ _|(show(@ln (ah 34) parts+1)*24<=140737488355328<;>omega)))|refine bO bK trivial ?_|(refine Or.inl ⟨_,_,_,_,[7],Bb _ _,rfl,rfl,rfl,rfl,rfl,(aK trivial),?_⟩;(rintro _ _ _ ⟨rfl,rfl,rfl⟩;refine aK (aK ?_))))|apply B_<;>intro h hc|apply I_;intro h
 all_goals conv=>whnf
 refine Or.inr (Or.inr ⟨[],[4],[],[],[0,1],[],?_⟩);conv=>whnf
 have hsl:0<@ln (ah 0) stack:=List.length_pos_of_mem (List.mem_of_mem_take hv);refine⟨fun(s:Int×Unit) (_:Unit)=>0<=s.1/\s.1<(@ln (ah 0) stack:Nat)/\jH stack v (List.length (α:=Int) stack)=jH stack v (s.1.toNat+1)/\wV stack v (s.1.toNat+1),fun(s:Int×Unit) _=>s.1.toNat,?_⟩
 conv=>whnf
 have hlz:((@ln (ah 0) stack:Int)-1).toNat+1=List.length (α:=Int) stack:=by
   show((@ln (ah 0) stack:Int)-1).toNat+1=@ln (ah 0) stack;omega
 refine eZ.mk ⟨bg,bg,?_,?_⟩ bA ?_
 ·show jH stack v _=jH stack v (((@ln (ah 0) stack:Int)-1).toNat+1);rw [hlz]
 ·show wV stack v (((@ln (ah 0) stack:Int)-1).toNat+1);rw [hlz];exact hv
 rintro⟨(k:Int),_⟩ _ ⟨h0,h1,h2,h3⟩
 try dsimp only at h0 h1 h2 h3
 obtain⟨k,rfl⟩:=cO h0;rw [bP]at h2 h3
 have hkl:k<List.length (α:=Int) stack:=by
   show k<@ln (ah 0) stack;omega
 have hk1:¬ gt 0 stack k=v->1<=k/\wV stack v k/\jH stack v (k+1)=jH stack v k:=fun hq=>U3 hkl h3 hq
 have hL:∀ a b,(0+@ln (ah 0) (List.take a (List.drop b stack)))*8<=140737488355328:=fun a b=>by
   have:@ln (ah 0) (List.take a (List.drop b stack))<=@ln (ah 0) stack:=by simp;omega
   omega
 repeat' first|(refine w_ ?_;first|(apply aP;focus (first|exact hL _ _|(show(@ln (ah 34) parts+1)*24<=140737488355328<;>omega)))|refine bO bK trivial ?_|(refine Or.inl ⟨_,_,_,_,[7],Bb _ _,rfl,rfl,rfl,rfl,rfl,(aK trivial),?_⟩;(rintro _ _ _ ⟨rfl,rfl,rfl⟩;refine aK (aK ?_))))|apply B_<;>intro h hc|apply I_;intro h
 all_goals conv=>whnf
 ·obtain⟨q1,q2,q3⟩:=hk1 (by assumption)
  have e1:((k:Int)-1).toNat+1=k:=by omega
  refine KF.mk ⟨by show 0<=(k:Int)-1;omega,by show(k:Int)-1<(@ln (ah 0) stack:Nat);omega,?_,?_⟩ (by show((k:Int)-1).toNat<(k:Int).toNat;omega) bA
  ·show _=jH stack v (((k:Int)-1).toNat+1);rw [e1,h2];exact q3
  ·show wV stack v (((k:Int)-1).toNat+1);rw [e1];exact q2
 have hsc:jH stack v (List.length (α:=Int) stack)=k:=h2.trans (XY (by assumption))
 clear hk1;have hPP:=close_eq (index:=index) (low:=low) (part:=part) (parts:=parts) (count:=count) hkl hsc;generalize hP:DX ([]++List.take ((@ln (ah 0) stack:Int)-k).toNat (List.drop ((k:Int)).toNat stack))=P;have hP2:P=jq ⟨index,low,stack,part,parts,count⟩ v:=hP.symm.trans hPP;have hPr:=V5 (N:=(@ln (ah 0) part:Nat)) hP2 hr;have hPl:@ln (ah 0) P<=262144:=Nat.le_trans (V6 hP2) hs;refine Or.inr (Or.inr ⟨[],[55],[],[4],[0,53,54],[],?_⟩);conv=>whnf
 refine⟨fun(s:Int×Unit) (t:Li 0×Unit)=>0<=s.1/\s.1<=(@ln (ah 0) P:Nat)/\t.1=pU part (@ln (ah 34) (@HAppend.hAppend (Li 34) (Li 34) (Li 34) _ parts [P]):Nat) P s.1.toNat,fun(s:Int×Unit) _=>((@ln (ah 0) P:Nat)-s.1).toNat,?_⟩
 conv=>whnf
 refine eZ.mk ⟨bg,bg,rfl⟩ bA ?_
 rintro⟨(j:Int),_⟩ ⟨(t:Li 0),_⟩ ⟨g0,g1,gS⟩
 try dsimp only at g0 g1 gS
 obtain⟨j,rfl⟩:=cO g0;rw [bP]at gS;subst gS;have hml:@ln (ah 0) (pU part (@ln (ah 34) (@HAppend.hAppend (Li 34) (Li 34) (Li 34) _ parts [P]):Nat) P j)=@ln (ah 0) part:=Mi _ _ _ j;have hPj:j<@ln (ah 0) P->0<=gi P j/\gi P j<((@ln (ah 0) (pU part (@ln (ah 34) (@HAppend.hAppend (Li 34) (Li 34) (Li 34) _ parts [P]):Nat) P j):Nat):Int):=fun h=>by rw [hml];exact hPr j h
 repeat' first|(refine w_ ?_;first|(apply aP;focus (exact hPj au))|refine bO bK trivial ?_)|apply B_<;>intro h hc|apply I_;intro h
 all_goals conv=>whnf
 ·refine⟨by show(0:Int)<=(j:Int)+1;omega,by show(j:Int)+1<=(@ln (ah 0) P:Nat);omega,?_⟩
  show _=pU part _ P (j+1);rfl
 have ej:j=@ln (ah 0) P:=by omega
 subst ej;obtain⟨w1,w2,w3⟩:=V7 (index:=index) (low:=low) (part:=part) (parts:=parts) (count:=count) hsc hP2;refine⟨[],[(400000,3,0)],_,_,[10,9],⟨rfl,rfl,rfl⟩,?_⟩
 conv=>whnf
 refine w_ ?_;repeat' (first|((with_reducible apply And.intro)<;>(first|(with_reducible refine iK ?_;apply rfl)|(with_reducible refine eY ?_;apply rfl)|(refine w_ ?_)))|(with_reducible apply trivial)|apply rfl|apply(Or.inl rfl)|apply(Or.inr rfl)|apply(Or.inr (Or.inl rfl))|apply trivial|(apply And.intro<;>(refine w_ ?_)))
 all_goals first|(first|exact pO w1|exact w1)|(first|exact pO w2|exact w2)|(first|exact pO w3|exact w3)
def jD (nx:Rows):Nat->GS->GS
 |0,s=>s
 |k+1,s=>match jv nx s with
   |none=>s
   |some s'=>jD nx k s'
theorem CV {nx:Rows} {s:GS} (h:jv nx s=none):∀ k,jD nx k s=s
 |0=>rfl
 |k+1=>by rw [jD,h]
section
variable {nx:Rows} {n:Nat} {j4:List Int} {root R:Int}
theorem VI (hx:qp nx n):∀ (m:Nat) {s:GS},Dv nx n j4 root R s->yB nx s<=m->jD nx m s=jD nx (yB nx s) s:=by
 intro m
 induction m using Nat.strongRecOn with
 |_ m ih =>
   intro s h hm
   cases hs:jv nx s with
   |none=>rw [CV hs,CV hs]
   |some s' =>
     obtain⟨h1,h2⟩:=step_ok hx h hs;obtain⟨m1,rfl⟩:∃ m1,m=m1+1:=⟨m-1,au⟩
     obtain⟨m2,e2⟩:∃ m2,yB nx s=m2+1:=⟨yB nx s-1,au⟩
     rw [e2,jD,jD,hs];show jD nx m1 s'=jD nx m2 s';rw [ih m1 au h1 au,ih m2 au h1 au]
theorem VH (hx:qp nx n) {s s':GS} (h:Dv nx n j4 root R s) (hs:jv nx s=some s'):jD nx (yB nx s) s=jD nx (yB nx s') s':=by
 obtain⟨h1,h2⟩:=step_ok hx h hs;obtain⟨m2,e2⟩:∃ m2,yB nx s=m2+1:=⟨yB nx s-1,au⟩
 rw [e2,jD,hs];exact VI hx m2 h1 au
end
def uD (f:FS) (root:Int):GS:=⟨[⟨root,0⟩],uX f root⟩
def qU (nx:Rows) (f:FS) (root:Int):FS:=(jD nx (yB nx (uD f root)) (uD f root)).f
abbrev TF:=Li 84×((Li 34×Unit×Unit×Unit×Unit×Unit×Unit)×(Li 0×(Li 0×(Li 0×(Li 0×(Li 34×((Int×Unit)×Unit)))))))
def gsOf (t:TF):GS:=⟨t.1,⟨t.2.2.1,t.2.2.2.1,t.2.2.2.2.1,t.2.2.2.2.2.1,t.2.2.2.2.2.2.1,t.2.2.2.2.2.2.2.1.1⟩⟩
theorem rnd_ok {nx:Rows} {n:Nat} {j4:List Int} {root R:Int} (hx:qp nx n) {FIN s s':GS} (h:Dv nx n j4 root R s) (hF:FIN=jD nx (yB nx s) s) (hs:jv nx s=some s'):Dv nx n j4 root R s'/\FIN=jD nx (yB nx s') s'/\yB nx s'<yB nx s :=
 ⟨(step_ok hx h hs).1,hF.trans (VH hx h hs),(step_ok hx h hs).2⟩
theorem inc_top {cs:List bR} (h:0<cs.length):(qg cs).getD ((cs.length:Int)-1).toNat ⟨0,0⟩=⟨(topC cs).v,(topC cs).i+1⟩:=by
 have e:((cs.length:Int)-1).toNat=cs.length-1:=by omega
 rw [e,C8 h,fI,List.getElem?_append_right (by simp),List.length_take,show cs.length-1-min (cs.length-1) cs.length=0 by omega]
 rfl
theorem Ov {cs:List bR} (h:0<cs.length):((qg cs).getD ((cs.length:Int)-1).toNat ⟨0,0⟩).v=(topC cs).v:=by rw [inc_top h]
theorem up_top {cs:List bR} (h:1<cs.length):cs.getD (0+((cs.length:Int)-1-0-1)).toNat ⟨0,0⟩=topC (cs.take (cs.length-1)):=by
 unfold topC;rw [List.length_take,show((min (cs.length-1) cs.length:Nat):Int)-1=(cs.length:Int)-2 by omega,show(0+((cs.length:Int)-1-0-1)).toNat=cs.length-2 by omega,show((cs.length:Int)-2).toNat=cs.length-2 by omega]
 rw [fI,fI,List.getElem?_take_of_lt au]
theorem R3 {cs:List bR} (h:1<cs.length):(cs.getD (0+((cs.length:Int)-1-0-1)).toNat ⟨0,0⟩).v=(topC (cs.take (cs.length-1))).v:=by rw [up_top h]
section
variable {nx:Rows} {calls cs:List bR} {f:FS} {w v up:Int}
theorem P6 (hc:0<calls.length) (hi:(topC calls).i<(aQ nx (topC calls).v.toNat).length) (h0:gi f.index (gi (aQ nx (topC calls).v.toNat) (topC calls).i)=0) :
   jv nx ⟨calls,f⟩=some ⟨qg calls++[⟨gi (aQ nx (topC calls).v.toNat) (topC calls).i,0⟩],uX f (gi (aQ nx (topC calls).v.toNat) (topC calls).i)⟩:=by
 unfold jv;rw [if_pos hc,if_pos hi,if_pos h0]
theorem XL (hc:0<calls.length) (hi:(topC calls).i<(aQ nx (topC calls).v.toNat).length) (h0:¬ gi f.index (gi (aQ nx (topC calls).v.toNat) (topC calls).i)=0) (h1:gi f.part (gi (aQ nx (topC calls).v.toNat) (topC calls).i)=0) (hv:v=(topC calls).v) :
   jv nx ⟨calls,f⟩=some ⟨qg calls,zN f v (gi f.index (gi (aQ nx (topC calls).v.toNat) (topC calls).i))⟩:=by
 subst hv;unfold jv;rw [if_pos hc,if_pos hi,if_neg h0,if_pos h1]
theorem step_skip (hc:0<calls.length) (hi:(topC calls).i<(aQ nx (topC calls).v.toNat).length) (h0:¬ gi f.index (gi (aQ nx (topC calls).v.toNat) (topC calls).i)=0) (h1:¬ gi f.part (gi (aQ nx (topC calls).v.toNat) (topC calls).i)=0) :
   jv nx ⟨calls,f⟩=some ⟨qg calls,f⟩:=by
 unfold jv;rw [if_pos hc,if_pos hi,if_neg h0,if_neg h1]
theorem Ao (hc:0<calls.length) (hi:¬ (topC calls).i<(aQ nx (topC calls).v.toNat).length):jv nx ⟨calls,f⟩=some ⟨calls.take (calls.length-1),LP (calls.take (calls.length-1)) f (topC calls).v⟩:=by
 unfold jv;rw [if_pos hc,if_neg hi]
theorem UW (hc:1<calls.length) (hi:¬ (topC calls).i<(aQ nx (topC calls).v.toNat).length) (hcs:cs=calls.take (calls.length-1)) (hup:up=(topC (calls.take (calls.length-1))).v) (h:gi (zN f up (gi f.low (topC calls).v)).low (topC calls).v=gi f.index (topC calls).v) :
   jv nx ⟨calls,f⟩=some ⟨cs,nD (zN f up (gi f.low (topC calls).v)) (topC calls).v⟩:=by
 subst hcs hup;rw [Ao au hi]
 have e:tT (calls.take (calls.length-1)) f (topC calls).v=zN f (topC (calls.take (calls.length-1))).v (gi f.low (topC calls).v):=if_pos (by rw [List.length_take];omega)
 unfold LP;rw [e,if_pos (show gi (zN f (topC (calls.take (calls.length-1))).v (gi f.low (topC calls).v)).low (topC calls).v=gi (zN f (topC (calls.take (calls.length-1))).v (gi f.low (topC calls).v)).index (topC calls).v from h)]
theorem UU (hc:1<calls.length) (hi:¬ (topC calls).i<(aQ nx (topC calls).v.toNat).length) (hcs:cs=calls.take (calls.length-1)) (hup:up=(topC (calls.take (calls.length-1))).v) (h:¬ gi (zN f up (gi f.low (topC calls).v)).low (topC calls).v=gi f.index (topC calls).v) :
   jv nx ⟨calls,f⟩=some ⟨cs,zN f up (gi f.low (topC calls).v)⟩:=by
 subst hcs hup;rw [Ao au hi]
 have e:tT (calls.take (calls.length-1)) f (topC calls).v=zN f (topC (calls.take (calls.length-1))).v (gi f.low (topC calls).v):=if_pos (by rw [List.length_take];omega)
 unfold LP;rw [e,if_neg (show ¬ gi (zN f (topC (calls.take (calls.length-1))).v (gi f.low (topC calls).v)).low (topC calls).v=gi (zN f (topC (calls.take (calls.length-1))).v (gi f.low (topC calls).v)).index (topC calls).v from h)]
theorem UR (hc:0<calls.length) (h1:¬ 1<calls.length) (hi:¬ (topC calls).i<(aQ nx (topC calls).v.toNat).length) (hcs:cs=calls.take (calls.length-1)) (h:gi f.low (topC calls).v=gi f.index (topC calls).v) :
   jv nx ⟨calls,f⟩=some ⟨cs,nD f (topC calls).v⟩:=by
 subst hcs;rw [Ao hc hi];have e:tT (calls.take (calls.length-1)) f (topC calls).v=f:=if_neg (by rw [List.length_take];omega)
 unfold LP;rw [e,if_pos h]
theorem UQ (hc:0<calls.length) (h1:¬ 1<calls.length) (hi:¬ (topC calls).i<(aQ nx (topC calls).v.toNat).length) (hcs:cs=calls.take (calls.length-1)) (h:¬ gi f.low (topC calls).v=gi f.index (topC calls).v) :
   jv nx ⟨calls,f⟩=some ⟨cs,f⟩:=by
 subst hcs;rw [Ao hc hi];have e:tT (calls.take (calls.length-1)) f (topC calls).v=f:=if_neg (by rw [List.length_take];omega)
 unfold LP;rw [e,if_neg h]
theorem xZ (calls:List bR):List.take (((calls.length:Int)-1).toNat-(0:Int).toNat) (List.drop (0:Int).toNat calls)=calls.take (calls.length-1):=by
 have e:((calls.length:Int)-1).toNat-(0:Int).toNat=calls.length-1:=by
   rw [show(0:Int).toNat=0 from rfl];omega
 rw [e];rfl
end
theorem uI {nx:Rows} {n:Nat} {j4:List Int} {root R:Int} (hx:qp nx n) {FIN s:GS} (h:Dv nx n j4 root R s) (hF:FIN=jD nx (yB nx s) s) (s':GS) (hs:jv nx s=some s'):Dv nx n j4 root R s'/\FIN=jD nx (yB nx s') s'/\yB nx s'<yB nx s:=rnd_ok hx h hF hs
theorem LB {nx:Rows} {n:Nat} {j4:List Int} {root R:Int} {FIN s:GS} (hF:FIN=jD nx (yB nx s) s) (hc:¬ 0<s.calls.length):FIN=s:=by
 rw [hF];refine CV ?_ _;unfold jv;rw [if_neg hc]
structure GSafe (nx:Rows) (n:Nat) (calls:List bR) (f:FS):Prop where
 nl:nx.length=n
 v:0<calls.length->0<=(topC calls).v/\(topC calls).v<n
 i:0<calls.length->0<=(topC calls).i/\(topC calls).i<=(aQ nx (topC calls).v.toNat).length
 u:1<calls.length->0<=(topC (calls.take (calls.length-1))).v/\(topC (calls.take (calls.length-1))).v<n
 w:0<calls.length->(topC calls).i<(aQ nx (topC calls).v.toNat).length->0<=gi (aQ nx (topC calls).v.toNat) (topC calls).i/\gi (aQ nx (topC calls).v.toNat) (topC calls).i<n
 li:f.index.length=n
 ll:f.low.length=n
 lp:f.part.length=n
 cl:calls.length<=n
 sl:f.stack.length<=n
 pl:f.parts.length<=n
 c0:0<=f.count/\f.count<=n
theorem gsafe {nx:Rows} {n:Nat} {j4:List Int} {root R:Int} (hx:qp nx n) {s:GS} (h:Dv nx n j4 root R s):GSafe nx n s.calls s.f:=by
 have hv:=KW s.f.index;rw [h.li]at hv;have hcl:=h.cl;have hstk:=h.stk;have hcnt:=h.cnt;refine⟨hx.len,fun hc=>⟨(h.cv _ (top_mem h hc)).1,(h.cv _ (top_mem h hc)).2.1⟩,fun hc=>(h.cv _ (top_mem h hc)).2.2,fun hc=>?_,fun hc hi=>hx.row _ _ (ny (by have:=(h.cv _ (top_mem h hc)).2.2;omega)),h.li,h.ll,h.lp,au,au,au,au⟩
 have hq:0<(s.calls.take (s.calls.length-1)).length:=by simp;omega
 have e:=top_split hq;have hm:topC (s.calls.take (s.calls.length-1))∈s.calls:=List.mem_of_mem_take (by rw [e];exact List.mem_append_right _ (by rw [<- e];exact List.mem_singleton.2 rfl))
 exact⟨(h.cv _ hm).1,(h.cv _ hm).2.1⟩
theorem OC {zn z1 z2 z3 z4 z5:Option Bool} {nx parts:Li 34} {index low stack part:Li 0} {count v:Int} (hc:0<=count/\count<=262144) (hi:0<=v/\v<(@ln (ah 0) index:Nat)) (hl:0<=v/\v<(@ln (ah 0) low:Nat)) (hs:@ln (ah 0) stack<=262144):HC E0 398 9 [.i v,.loc 0 0,.loc 1 0] [(0,.row 267 [.loc 2 0]),(1,.row 451 [.loc 3 0]),(2,.row 3 [.i count]),(3,.row 429 [.aW zn 34 nx,.bT 4,.bT 5,.bT 6,.bT 7,.bT 8]),(4,.arr 3 z1 0 index),(5,.arr 3 z2 0 low),(6,.arr 3 z3 0 stack),(7,.arr 3 z4 0 part),(8,.arr 33 z5 34 parts)] (fun s H n=>s=.agg [.i v,.i 0]/\H=[(0,.row 267 [.loc 2 0]),(1,.row 451 [.loc 3 0]),(2,.row 3 [.i (count+1)]),(3,.row 429 [.aW zn 34 nx,.bT 4,.bT 5,.bT 9,.bT 7,.bT 8]),(4,.arr 3 none 0 (uX ⟨index,low,stack,part,parts,count⟩ v).index),(5,.arr 3 none 0 (uX ⟨index,low,stack,part,parts,count⟩ v).low),(9,.arr 3 none 0 (uX ⟨index,low,stack,part,parts,count⟩ v).stack),(7,.arr 3 z4 0 part),(8,.arr 33 z5 34 parts)]/\n=10):=by
 refine dG (DB:=[]) (IL:=[]) (WL:=[]) (fn:=Proofs.Tryz.f398) rfl rfl rfl rfl (by unfold dA;kernel_rfl) (fun hk=>?_)
 simp only [know]at hk;have hq:(@ln (ah 0) stack+1)*8<=140737488355328:=by omega
 repeat' first|(refine w_ ?_;first|(apply aP;focus (first|exact hq|exact hi|exact hl))|refine bO bK trivial ?_|(refine Or.inr (Or.inl ⟨[0,0,1,1,0,1,2,3,1,1,3],(.take 5 (.take 1 (.take 2 (.take 3 (.take 4 (.two 0 (.one 6 (.one 7 (.take 8 (.take 9 (.one 10 .done))))) 6 (.two 0 (.one 7 (.take 8 (.take 9 (.one 10 .done)))) 7 (.take 0 (.take 8 (.take 9 (.one 10 .done))))))))))),by decide +kernel,?_⟩))|(refine And.intro ?_ ?_))|apply B_<;>intro h hc|apply I_;intro h
 all_goals conv=>whnf
 all_goals (refine⟨[],[],_,_,[11],⟨rfl,rfl,rfl⟩,?_⟩;conv=>whnf)
 all_goals exact bA
def TJ (l:Rows) (i:Nat):Int:=gi (aQ l i) 0
def ji (l:Rows) (i j:Nat):Rows:=(l.set i (aQ l j)).set j (aQ l i)
def UH:Nat->Rows->Nat->Rows
 |0,l,_=>l
 |k+1,l,j=>if(j-1) / 2=j then l else if TJ l j<TJ l ((j-1) / 2)then UH k (ji l ((j-1) / 2) j) ((j-1) / 2)else l
def R5 (l:Rows) (j:Nat):Rows:=UH (j+1) l j
def p9 (n:Nat) (l:Rows) (i:Nat):Nat:=if 2*i+2<n then if TJ l (2*i+2)<TJ l (2*i+1)then 2*i+2 else 2*i+1 else 2*i+1
def tZ (n:Nat):Nat->Rows->Nat->Rows×Nat
 |0,l,i=>(l,i)
 |k+1,l,i=>if n<=2*i+1 then(l,i)else if TJ l (p9 n l i)<TJ l i then tZ n k (ji l i (p9 n l i)) (p9 n l i)else(l,i)
def nA (n:Nat) (l:Rows) (i:Nat):Rows×Nat:=tZ n (n-i) l i
def sZ (l:Rows) (x:List Int):Rows:=R5 (l++[x]) l.length
def qM (l:Rows):Rows:=(nA (l.length-1) (ji l 0 (l.length-1)) 0).1
theorem par_eq (k:Nat):((k:Int)-1).tdiv 2=((k-1) / 2:Nat):=by
 cases k with
 |zero=>rfl
 |succ k =>
   rw [show((k+1:Nat):Int)-1=(k:Int)by omega,Nat.add_sub_cancel]
   rfl
def NE (l:Rows):Prop:=∀ i,i<l.length->0<(aQ l i).length
theorem jh (l:Rows) (i j:Nat):(ji l i j).length=l.length:=by simp [ji]
theorem swap_lt {l:Rows} {i j:Nat} {a:Int} (h:a<l.length):a<(ji l i j).length:=by rw [jh];exact h
theorem mo {l:Rows} {i:Nat} (h:i<l.length):aQ l i∈l:=by
 unfold aQ;rw [fI,bZ h];exact List.getElem_mem h
theorem Oa {l:Rows} {r:List Int} (h:r∈l):∃ i,i<l.length/\aQ l i=r:=by
 obtain⟨i,hi,e⟩:=List.getElem_of_mem h;refine⟨i,hi,?_⟩;unfold aQ;rw [fI,bZ hi];exact e
theorem Am {l:Rows} {i j:Nat} (hi:i<l.length) (hj:j<l.length):∀ r∈ji l i j,r∈l:=by
 intro r hr;unfold ji at hr;rcases List.mem_or_eq_of_mem_set hr with hr|rfl
 ·rcases List.mem_or_eq_of_mem_set hr with hr|rfl
  ·exact hr
  ·exact mo hj
 ·exact mo hi
theorem Ae {l:Rows}:NE l↔∀ r∈l,r≠[]:=by
 refine⟨fun h r hr e=>?_,fun h i hi=>List.length_pos_iff.2 (h _ (mo hi))⟩
 obtain⟨i,hi,rfl⟩:=Oa hr;have:=h i hi;rw [e]at this;cases this
theorem BD {l:Rows} {i j:Nat} (h:NE l) (hi:i<l.length) (hj:j<l.length):NE (ji l i j):=Ae.2 fun r hr=>Ae.1 h r (Am hi hj r hr)
theorem Xe:∀ (k:Nat) (l:Rows) (j:Nat),j+1<=k->UH k l j=R5 l j:=by
 intro k
 induction k using Nat.strongRecOn with
 |_ k ih =>
   intro l j hk;obtain⟨k,rfl⟩:∃ k',k=k'+1:=⟨k-1,au⟩
   show UH (k+1) l j=UH (j+1) l j;rw [UH,UH];split
   ·rfl
   ·rename_i hp;split
    ·rw [ih k au _ _ au]
     by_cases hk2:j<k+1
     ·by_cases e:j=k
      ·subst e;rw [ih j au _ _ au]
      ·rw [ih j au _ _ au]
     ·omega
    ·rfl
theorem upS_top {l:Rows} {j:Nat} (h:(j-1) / 2=j):R5 l j=l:=by
 unfold R5;rw [UH,if_pos h]
theorem upS_go {l:Rows} {j:Nat} (h:¬ (j-1) / 2=j) (h2:TJ l j<TJ l ((j-1) / 2)):R5 l j=R5 (ji l ((j-1) / 2) j) ((j-1) / 2):=by
 conv=>lhs;unfold R5
 rw [UH,if_neg h,if_pos h2,Xe _ _ _ au]
theorem Xd {l:Rows} {j:Nat} (h2:¬ TJ l j<TJ l ((j-1) / 2)):R5 l j=l:=by
 unfold R5;rw [UH];split
 ·rfl
 ·first|rfl|rw [if_neg h2]
theorem R4:∀ (k:Nat) (l:Rows) (j:Nat),j<l.length->(UH k l j).length=l.length/\∀ r∈UH k l j,r∈l
 |0,_,_,_=>⟨rfl,fun _ h=>h⟩
 |k+1,l,j,hj=>by
   rw [UH];split
   ·exact⟨rfl,fun _ h=>h⟩
   ·split
    ·obtain⟨h1,h2⟩:=R4 k (ji l ((j-1) / 2) j) ((j-1) / 2) (by rw [jh];omega)
     exact⟨h1.trans (jh ..),fun r hr=>Am au hj r (h2 r hr)⟩
    ·exact⟨rfl,fun _ h=>h⟩
theorem QN {n i:Nat} {l:Rows} (h:¬ n<=2*i+1):i<p9 n l i/\p9 n l i<n:=by
 unfold p9;split
 ·split<;>omega
 ·omega
theorem Rc (n:Nat):∀ (k:Nat) (l:Rows) (i:Nat),n-i<=k->tZ n k l i=nA n l i:=by
 intro k
 induction k using Nat.strongRecOn with
 |_ k ih =>
   intro l i hk;unfold nA
   by_cases hn:n<=2*i+1
   ·cases k with
    |zero =>
      have e:n-i=0:=by omega
      rw [e]
    |succ k =>
      rw [tZ,if_pos hn]
      cases hm:n-i with
      |zero=>rfl
      |succ m=>rw [tZ,if_pos hn]
   ·have hk1:=QN (l:=l) hn;obtain⟨k,rfl⟩:∃ k',k=k'+1:=⟨k-1,au⟩
    obtain⟨m,hm⟩:∃ m,n-i=m+1:=⟨n-i-1,au⟩
    rw [hm,tZ,tZ,if_neg hn,if_neg hn];split
    ·rw [ih k au _ _ au]
     by_cases e:m<k+1
     ·rw [ih m e _ _ au]
     ·omega
    ·rfl
theorem V4 {n i:Nat} {l:Rows} (h:n<=2*i+1):nA n l i=(l,i):=by
 unfold nA
 cases n-i with
 |zero=>rfl
 |succ m=>rw [tZ,if_pos h]
theorem Aa {n i:Nat} {l:Rows} (h:¬ TJ l (p9 n l i)<TJ l i):nA n l i=(l,i):=by
 unfold nA
 cases n-i with
 |zero=>rfl
 |succ m =>
   rw [tZ];split
   ·rfl
   ·first|rfl|rw [if_neg h]
theorem H7 {n i:Nat} {l:Rows} (h:¬ n<=2*i+1) (h2:TJ l (p9 n l i)<TJ l i):nA n l i=nA n (ji l i (p9 n l i)) (p9 n l i):=by
 have hk1:=QN (l:=l) h
 conv=>lhs;unfold nA
 obtain⟨m,hm⟩:∃ m,n-i=m+1:=⟨n-i-1,au⟩
 rw [hm,tZ,if_neg h,if_pos h2,Rc n m _ _ au]
theorem Kr (n:Nat):∀ (k:Nat) (l:Rows) (i:Nat),n<=l.length->i<l.length->(tZ n k l i).1.length=l.length/\∀ r∈(tZ n k l i).1,r∈l
 |0,_,_,_,_=>⟨rfl,fun _ h=>h⟩
 |k+1,l,i,hn,hi=>by
   rw [tZ];split
   ·exact⟨rfl,fun _ h=>h⟩
   ·rename_i h;have hk1:=QN (l:=l) h;split
    ·obtain⟨h1,h2⟩:=Kr n k (ji l i (p9 n l i)) (p9 n l i) (by rw [jh];exact hn) (by rw [jh];omega)
     exact⟨h1.trans (jh ..),fun r hr=>Am hi au r (h2 r hr)⟩
    ·exact⟨rfl,fun _ h=>h⟩
theorem qx (l:Rows) (x:List Int):(sZ l x).length=l.length+1/\∀ r∈sZ l x,r∈l\/r=x:=by
 obtain⟨h1,h2⟩:=R4 (l.length+1) (l++[x]) l.length (by simp)
 refine⟨by rw [sZ,R5,h1];simp,fun r hr=>?_⟩
 rcases List.mem_append.1 (h2 r hr)with h|h
 ·exact .inl h
 ·exact .inr (List.mem_singleton.1 h)
theorem Gl {l:Rows} (h:0<l.length):(qM l).length=l.length/\∀ r∈qM l,r∈l:=by
 obtain⟨h1,h2⟩:=Kr (l.length-1) (l.length-1-0) (ji l 0 (l.length-1)) 0 (by rw [jh];omega) (by rw [jh];exact h)
 exact⟨h1.trans (jh ..),fun r hr=>Am h au r (h2 r hr)⟩
noncomputable def I_Ew:je E0:=kC 443 Proofs.Tryz.f443 rfl rfl
noncomputable def I_Ex:je E0:=kC 444 Proofs.Tryz.f444 rfl rfl
noncomputable def I_Ey:je E0:=kC 447 Proofs.Tryz.f447 rfl rfl
theorem hc_hup {z:Option Bool} {l:Li 34} {j:Nat} {J:Int} (ej:J=(j:Nat)) (hj:j<@ln (ah 34) l) (hb:@ln (ah 34) l<=262144) (hR:NE l):HC E0 400 2 [.uo 431 (.loc 0 0),.i J] [(0,.row 432 [.bT 1]),(1,.arr 33 z 34 l)] (fun s H n=>s=.jm []/\H=[(0,.row 432 [.bT 1]),(1,.arr 33 none 34 (R5 l j))]/\n=2):=by
 subst ej;refine dG (DB:=[]) (IL:=[I_Ex,I_Ey]) (WL:=[]) (fn:=Proofs.Tryz.f400) rfl rfl rfl rfl (by unfold dA;kernel_rfl) (fun hk=>?_)
 simp only [know]at hk;refine Or.inr (Or.inr ⟨[],[1,12,13,14,15,16],[],[1],[0],[],?_⟩);conv=>whnf
 generalize hFN:R5 l j=FIN;refine⟨fun(s:Int×Unit) (t:Li 34×Unit)=>0<=s.1/\s.1<(@ln (ah 34) t.1:Nat)/\@ln (ah 34) t.1=@ln (ah 34) l/\NE t.1/\FIN=R5 t.1 s.1.toNat,fun(s:Int×Unit) _=>s.1.toNat,?_⟩
 conv=>whnf
 refine eZ.mk ⟨bg,bg,rfl,hR,hFN.symm⟩ bA ?_
 rintro⟨(k:Int),_⟩ ⟨(t:Li 34),_⟩ ⟨h0,h1,h2,h3,h4⟩
 try dsimp only at h0 h1 h2 h3 h4
 obtain⟨k,rfl⟩:=cO h0;rw [bP]at h4;have hkl:k<@ln (ah 34) t:=by omega
 have hp:((k:Int)-1).tdiv 2=((k-1) / 2:Nat):=par_eq k;have hq:0<=((k:Int)-1).tdiv 2/\((k:Int)-1).tdiv 2<(@ln (ah 34) t:Nat):=by rw [hp];omega
 have oS:∀ (q:Nat) (x:ah 34),0<=(k:Int)/\(k:Int)<(@ln (ah 34) (List.set (α:=ah 34) t q x):Nat):=fun q x=>⟨h0,by rw [@List.length_set (ah 34) t q x];exact h1⟩
 have oA:(0:Int)<=0/\(0:Int)<(List.length (α:=Int) (aQ t ((k:Int)).toNat):Nat):=⟨Int.le_refl _,by have:=h3 ((k:Int)).toNat (by show _<@ln (ah 34) t;omega);omega⟩
 have oB:(0:Int)<=0/\(0:Int)<(List.length (α:=Int) (aQ t (((k:Int)-1).tdiv 2).toNat):Nat):=⟨Int.le_refl _,by have:=h3 (((k:Int)-1).tdiv 2).toNat (by show _<@ln (ah 34) t;omega);omega⟩
 repeat' first|(refine w_ ?_;first|(apply aP;focus (first|exact hq|exact oS _ _|exact oA|exact oB))|refine bO bK trivial ?_)|apply B_<;>intro h hc|apply I_;intro h
 all_goals conv=>whnf
 ·have e:=upS_top (l:=t) (j:=k) au
  rw [h4,e];refine⟨[],[],_,_,[],⟨rfl,rfl,rfl⟩,?_⟩
  conv=>whnf
  exact bA
 ·have e:=Xd (l:=t) (j:=k) (by rw [hp]at h;exact h)
  rw [h4,e];refine⟨[],[],_,_,[],⟨rfl,rfl,rfl⟩,?_⟩
  conv=>whnf
  exact bA
 ·have e:=upS_go (l:=t) (j:=k) au (by rw [hp]at h;exact h)
  have e2:ji t ((k-1) / 2) k=ji t (((k:Int)-1).tdiv 2).toNat k:=by rw [hp];rfl
  refine⟨hq.1,?_,(jh t (((k:Int)-1).tdiv 2).toNat k).trans h2,BD h3 (by show _<@ln (ah 34) t;omega) hkl,?_⟩
  ·exact swap_lt hq.2
  ·show _=R5 (ji t (((k:Int)-1).tdiv 2).toNat k) (((k:Int)-1).tdiv 2).toNat;rw [h4,e,e2,hp];rfl
theorem Z6 {z:Option Bool} {l:Li 34} {i m:Nat} {I M:Int} (ei:I=(i:Nat)) (em:M=(m:Nat)) (hi:i<@ln (ah 34) l) (hb:@ln (ah 34) l<=262144) (hn:m<=@ln (ah 34) l) (hR:NE l):HC E0 401 2 [.uo 431 (.loc 0 0),.i I,.i M] [(0,.row 432 [.bT 1]),(1,.arr 33 z 34 l)] (fun s H n=>s=.b (decide (I<((nA m l i).2:Nat)))/\H=[(0,.row 432 [.bT 1]),(1,.arr 33 none 34 (nA m l i).1)]/\n=2):=by
 subst ei;subst em;refine dG (DB:=[]) (IL:=[I_Ex,I_Ey]) (WL:=[]) (fn:=Proofs.Tryz.f401) rfl rfl rfl rfl (by unfold dA;kernel_rfl) (fun hk=>?_)
 simp only [know]at hk
 repeat' first|(refine w_ ?_;first|(apply aP;focus (first|exact oA _ au|exact oS1 _ _ au|exact oS2 _ _ au))|refine bO bK trivial ?_)|apply B_<;>intro h hc|apply I_;intro h
 all_goals conv=>whnf
 refine Or.inr (Or.inr ⟨[],[7,19,20,29,30,31,32],[],[1],[0,1,2],[],?_⟩);conv=>whnf
 generalize hFN:nA m l i=FIN;refine⟨fun(s:Int×Unit) (t:Li 34×Unit)=>0<=s.1/\s.1<(@ln (ah 34) t.1:Nat)/\@ln (ah 34) t.1=@ln (ah 34) l/\NE t.1/\FIN=nA m t.1 s.1.toNat,fun(s:Int×Unit) _=>(m-s.1).toNat,?_⟩
 conv=>whnf
 refine eZ.mk ⟨bg,bg,rfl,hR,hFN.symm⟩ bA ?_
 rintro⟨(k:Int),_⟩ ⟨(t:Li 34),_⟩ ⟨h0,h1,h2,h3,h4⟩
 try dsimp only at h0 h1 h2 h3 h4
 obtain⟨k,rfl⟩:=cO h0;rw [bP]at h4;have hkl:k<@ln (ah 34) t:=by omega
 have oS1:∀ (q:Nat) (x:ah 34),2*(k:Int)+1<(@ln (ah 34) t:Nat)->0<=2*(k:Int)+1/\2*(k:Int)+1<(@ln (ah 34) (List.set (α:=ah 34) t q x):Nat):=fun q x hb=>⟨au,by rw [@List.length_set (ah 34) t q x];exact hb⟩
 have oS2:∀ (q:Nat) (x:ah 34),2*(k:Int)+1+1<(@ln (ah 34) t:Nat)->0<=2*(k:Int)+1+1/\2*(k:Int)+1+1<(@ln (ah 34) (List.set (α:=ah 34) t q x):Nat):=fun q x hb=>⟨au,by rw [@List.length_set (ah 34) t q x];exact hb⟩
 have oA:∀ a:Int,a<(@ln (ah 34) t:Nat)->(0:Int)<=0/\(0:Int)<(List.length (α:=Int) (aQ t a.toNat):Nat):=fun a ha=>⟨Int.le_refl _,by have:=h3 a.toNat (by show _<@ln (ah 34) t;omega);omega⟩
 repeat' first|(refine w_ ?_;first|(apply aP;focus (first|exact oA _ au|exact oS1 _ _ au|exact oS2 _ _ au))|refine bO bK trivial ?_)|apply B_<;>intro h hc|apply I_;intro h
 all_goals conv=>whnf
 ·have e:=V4 (n:=m) (l:=t) (i:=k) au
  rw [h4,e];refine⟨[],[],_,_,[],⟨rfl,rfl,rfl⟩,?_⟩
  conv=>whnf
  exact bA
 ·have ek:p9 m t k=2*k+2:=by unfold p9;rw [if_pos au,if_pos (by assumption)]
  have e:=Aa (n:=m) (l:=t) (i:=k) (by rw [ek];exact h)
  rw [h4,e];refine⟨[],[],_,_,[],⟨rfl,rfl,rfl⟩,?_⟩
  conv=>whnf
  exact bA
 ·have ek:p9 m t k=2*k+2:=by unfold p9;rw [if_pos au,if_pos (by assumption)]
  have e:=H7 (n:=m) (l:=t) (i:=k) au (by rw [ek];exact h)
  rw [ek]at e;refine⟨bg,?_,(jh t _ _).trans h2,BD (l:=t) (i:=k) (j:=2*k+2) h3 hkl (by show _<@ln (ah 34) t;omega),?_⟩
  ·exact swap_lt (l:=t) (i:=k) (j:=2*k+2) (by show _<(@ln (ah 34) t:Int);(try dsimp only);omega)
  ·exact h4.trans e
 ·have ek:p9 m t k=2*k+1:=by unfold p9;rw [if_pos au,if_neg (by assumption)]
  have e:=Aa (n:=m) (l:=t) (i:=k) (by rw [ek];exact h)
  rw [h4,e];refine⟨[],[],_,_,[],⟨rfl,rfl,rfl⟩,?_⟩
  conv=>whnf
  exact bA
 ·have ek:p9 m t k=2*k+1:=by unfold p9;rw [if_pos au,if_neg (by assumption)]
  have e:=H7 (n:=m) (l:=t) (i:=k) au (by rw [ek];exact h)
  rw [ek]at e;refine⟨bg,?_,(jh t _ _).trans h2,BD (l:=t) (i:=k) (j:=2*k+1) h3 hkl (by show _<@ln (ah 34) t;omega),?_⟩
  ·exact swap_lt (l:=t) (i:=k) (j:=2*k+1) (by show _<(@ln (ah 34) t:Int);(try dsimp only);omega)
  ·exact h4.trans e
 ·have ek:p9 m t k=2*k+1:=by unfold p9;rw [if_neg au]
  have e:=Aa (n:=m) (l:=t) (i:=k) (by rw [ek];exact h)
  rw [h4,e];refine⟨[],[],_,_,[],⟨rfl,rfl,rfl⟩,?_⟩
  conv=>whnf
  exact bA
 ·have ek:p9 m t k=2*k+1:=by unfold p9;rw [if_neg au]
  have e:=H7 (n:=m) (l:=t) (i:=k) au (by rw [ek];exact h)
  rw [ek]at e;refine⟨bg,?_,(jh t _ _).trans h2,BD (l:=t) (i:=k) (j:=2*k+1) h3 hkl (by show _<@ln (ah 34) t;omega),?_⟩
  ·exact swap_lt (l:=t) (i:=k) (j:=2*k+1) (by show _<(@ln (ah 34) t:Int);(try dsimp only);omega)
  ·exact h4.trans e
theorem Z7 {z zx:Option Bool} {l:Li 34} {x:Li 0} (hb:@ln (ah 34) l<=262144):HC E0 446 2 [.loc 0 0,.uo 33 (.aW zx 0 x)] [(0,.row 432 [.bT 1]),(1,.arr 33 z 34 l)] (fun s H n=>s=.jm []/\H=[(0,.row 432 [.bT 2]),(2,.arr 33 none 34 (@HAppend.hAppend (List (List Int)) (List (List Int)) (List (List Int)) _ l [x]))]/\n=3):=by
 refine dG (DB:=[]) (IL:=[]) (WL:=[]) (fn:=Proofs.Tryz.f446) rfl rfl rfl rfl (by unfold dA;kernel_rfl) (fun hk=>?_)
 simp only [know]at hk;have hb2:(@ln (ah 34) l+1)*24<=140737488355328:=by omega
 repeat' first|refine s_ bK @hb2 ?_|apply B_<;>intro h hc|apply I_;intro h
 all_goals conv=>whnf
 refine⟨[],[],_,_,[3],⟨rfl,rfl,rfl⟩,?_⟩
 conv=>whnf
 exact bA
theorem hc_fpop {z:Option Bool} {l:Li 34} (h0:0<@ln (ah 34) l) (hb:@ln (ah 34) l<=262144):HC E0 445 2 [.loc 0 0] [(0,.row 432 [.bT 1]),(1,.arr 33 z 34 l)] (fun s H n=>s=.uo 33 (.aW none 0 (aQ l ((@ln (ah 34) l:Int)-1).toNat))/\H=[(0,.row 432 [.bT 2]),(2,.arr 33 none 34 (List.take (@ln (ah 34) l-1) l))]/\n=3):=by
 refine dG (DB:=[]) (IL:=[]) (WL:=[]) (fn:=Proofs.Tryz.f445) rfl rfl rfl rfl (by unfold dA;kernel_rfl) (fun hk=>?_)
 simp only [know]at hk
 repeat' first|refine dM ?_|apply B_<;>intro h hc|apply I_;intro h
 all_goals conv=>whnf
 refine⟨[],[(100000,33,34)],_,_,[2],⟨rfl,rfl,rfl⟩,?_⟩
 conv=>whnf
 refine w_ ?_;repeat' (first|((with_reducible apply And.intro)<;>(first|(with_reducible refine iK ?_;apply rfl)|(with_reducible refine eY ?_;apply rfl)|(refine w_ ?_)))|(with_reducible apply trivial)|apply rfl|apply(Or.inl rfl)|apply(Or.inr rfl)|apply(Or.inr (Or.inl rfl))|apply trivial|(apply And.intro<;>(refine w_ ?_)))
 all_goals (first|exact pO (by rw [show((@ln (ah 34) l:Int)-1).toNat-Int.toNat 0=@ln (ah 34) l-1 by omega];rfl)|exact(by rw [show((@ln (ah 34) l:Int)-1).toNat-Int.toNat 0=@ln (ah 34) l-1 by omega];rfl))
theorem OB {z zx:Option Bool} {l:Li 34} {x:Li 0} (hb:@ln (ah 34) l<=262143) (hR:NE l) (hx:0<@ln (ah 0) x):HC E0 354 2 [.uo 431 (.loc 0 0),.uo 33 (.aW zx 0 x)] [(0,.row 432 [.bT 1]),(1,.arr 33 z 34 l)] (fun s H n=>s=.jm []/\H=[(0,.row 432 [.bT 2]),(2,.arr 33 none 34 (sZ l x))]/\n=3):=by
 refine dG (DB:=[]) (IL:=[I_Ew]) (WL:=[]) (fn:=Proofs.Tryz.f354) rfl rfl rfl rfl (by unfold dA;kernel_rfl) (fun hk=>?_)
 simp only [know]at hk;have hb1:@ln (ah 34) l<=262144:=by omega
 have hl1:List.length (α:=List Int) (@HAppend.hAppend (List (List Int)) (List (List Int)) (List (List Int)) _ l [x])=@ln (ah 34) l+1:=List.length_append;have ej:((List.length (α:=List Int) (@HAppend.hAppend (List (List Int)) (List (List Int)) (List (List Int)) _ l [x]):Nat):Int)-1=(@ln (ah 34) l:Nat):=by omega
 have hj2:@ln (ah 34) l<List.length (α:=List Int) (@HAppend.hAppend (List (List Int)) (List (List Int)) (List (List Int)) _ l [x]):=by omega
 have hl2:List.length (α:=List Int) (@HAppend.hAppend (List (List Int)) (List (List Int)) (List (List Int)) _ l [x])<=262144:=by omega
 have hR2:NE (@HAppend.hAppend (List (List Int)) (List (List Int)) (List (List Int)) _ l [x]):=Ae.2 fun r hr=>by
   rcases List.mem_append.1 hr with hr|hr
   ·exact Ae.1 hR r hr
   ·rw [List.mem_singleton.1 hr];exact List.length_pos_iff.1 hx
 repeat' first|(refine w_ ?_;first|refine bO bK trivial ?_|(refine Or.inl ⟨_,_,_,_,[0,1],Z7 hb1,rfl,rfl,rfl,rfl,rfl,(aK (aK trivial)),?_⟩;(rintro _ _ _ ⟨rfl,rfl,rfl⟩;refine aK (aK ?_)))|(refine Or.inl ⟨_,_,_,_,[0,2],hc_hup ej hj2 hl2 hR2,rfl,rfl,rfl,rfl,rfl,(aK (aK trivial)),?_⟩;(rintro _ _ _ ⟨rfl,rfl,rfl⟩;refine aK (aK ?_))))|apply B_<;>intro h hc|apply I_;intro h
 all_goals conv=>whnf
 refine⟨[],[],_,_,[2],⟨rfl,rfl,rfl⟩,?_⟩
 conv=>whnf
 exact bA
theorem hc_hpop {z:Option Bool} {l:Li 34} (h0:0<@ln (ah 34) l) (hb:@ln (ah 34) l<=262144) (hR:NE l):HC E0 355 2 [.uo 431 (.loc 0 0)] [(0,.row 432 [.bT 1]),(1,.arr 33 z 34 l)] (fun s H n=>s=.uo 33 (.aW none 0 (aQ (qM l) ((@ln (ah 34) (qM l):Int)-1).toNat))/\H=[(0,.row 432 [.bT 2]),(2,.arr 33 none 34 (List.take (@ln (ah 34) (qM l)-1) (qM l)))]/\n=3):=by
 refine dG (DB:=[]) (IL:=[I_Ew,I_Ey]) (WL:=[]) (fn:=Proofs.Tryz.f355) rfl rfl rfl rfl (by unfold dA;kernel_rfl) (fun hk=>?_)
 simp only [know]at hk;have em:(@ln (ah 34) l:Int)-1=(@ln (ah 34) l-1:Nat):=by omega
 have hsl:List.length (α:=List Int) (ji l 0 (@ln (ah 34) l-1))=@ln (ah 34) l:=jh l _ _;have hs1:ji l 0 (@ln (ah 34) l-1)=ji l (Int.toNat 0) ((@ln (ah 34) l:Int)-1).toNat:=by rw [em];rfl
 have hi2:0<List.length (α:=List Int) (ji l (Int.toNat 0) ((@ln (ah 34) l:Int)-1).toNat):=by rw [<- hs1];omega
 have hb2:List.length (α:=List Int) (ji l (Int.toNat 0) ((@ln (ah 34) l:Int)-1).toNat)<=262144:=by rw [<- hs1];omega
 have hn2:@ln (ah 34) l-1<=List.length (α:=List Int) (ji l (Int.toNat 0) ((@ln (ah 34) l:Int)-1).toNat):=by rw [<- hs1];omega
 have hR2:NE (ji l (Int.toNat 0) ((@ln (ah 34) l:Int)-1).toNat):=by rw [<- hs1];exact BD hR h0 (by show _<@ln (ah 34) l;omega)
 have hD:qM l=(nA (@ln (ah 34) l-1) (ji l (Int.toNat 0) ((@ln (ah 34) l:Int)-1).toNat) 0).1:=by
   unfold qM;show(nA (@ln (ah 34) l-1) (ji l 0 (@ln (ah 34) l-1)) 0).1=_;rw [hs1]
 have hDl:List.length (α:=List Int) (nA (@ln (ah 34) l-1) (ji l (Int.toNat 0) ((@ln (ah 34) l:Int)-1).toNat) 0).1=@ln (ah 34) l:=by rw [<- hD];exact(Gl h0).1
 have h03:0<List.length (α:=List Int) (nA (@ln (ah 34) l-1) (ji l (Int.toNat 0) ((@ln (ah 34) l:Int)-1).toNat) 0).1:=by omega
 have hb3:List.length (α:=List Int) (nA (@ln (ah 34) l-1) (ji l (Int.toNat 0) ((@ln (ah 34) l:Int)-1).toNat) 0).1<=262144:=by omega
 rw [hD];have oS:∀ (q:Nat) (x:ah 34),0<=(@ln (ah 34) l:Int)-1/\(@ln (ah 34) l:Int)-1<(@ln (ah 34) (List.set (α:=ah 34) l q x):Nat):=fun q x=>⟨au,by rw [@List.length_set (ah 34) l q x];omega⟩
 repeat' first|(refine w_ ?_;first|(apply aP;focus (exact oS _ _))|refine bO bK trivial ?_|(refine Or.inl ⟨_,_,_,_,[0,1],Z6 rfl em hi2 hb2 hn2 hR2,rfl,rfl,rfl,rfl,rfl,(aK (aK trivial)),?_⟩;(rintro _ _ _ ⟨rfl,rfl,rfl⟩;refine aK (aK ?_)))|(refine Or.inl ⟨_,_,_,_,[0,1],hc_fpop h03 hb3,rfl,rfl,rfl,rfl,rfl,(aK (aK trivial)),?_⟩;(rintro _ _ _ ⟨rfl,rfl,rfl⟩;refine aK (aK ?_))))|apply B_<;>intro h hc|apply I_;intro h
 all_goals conv=>whnf
 refine⟨[],[],_,_,[2],⟨rfl,rfl,rfl⟩,?_⟩
 conv=>whnf
 exact bA
end Go.SX
