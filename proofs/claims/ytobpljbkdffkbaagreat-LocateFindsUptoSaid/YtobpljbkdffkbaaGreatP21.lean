/- A part of the proof (texts GPure, B35, B36, GHeap, B38). -/
import Derived.Test.YtobpljbkdffkbaaGreatP16
set_option linter.all false
set_option maxRecDepth 100000
namespace Go.SX
open Go.XK Go.RowKit
theorem okX_len {ops:Array Oper} {kd:Nat→Nat} {l:List Nat} {n:Nat} (_:ops.size=n) (h:okX .any ops kd l=true):okX .any ops kd l=true:=h
theorem vcP_len {E:En} {DB:Db E} {N n k:Nat} {ops:Array Oper} {kd:Nat→Nat} {p:Plan} {b:Array Bool} {σ:St} {K:St→Prop} (_:ops.size=n) (h:vcP E DB N ops kd p k b σ K):vcP E DB N ops kd p k b σ K:=h
theorem eqL_of {c:Nat} {l l':List (TabT c)} (h:l=l'):eqL c c l l':=h▸eqL_rf c l
def gi (l:List Int) (k:Int):Int:=l.getD k.toNat 0
structure FS where
 index:List Int
 low:List Int
 stack:List Int
 part:List Int
 parts:Rows
 count:Int
structure GS where
 calls:List TGraphCall
 f:FS
def topC (cs:List TGraphCall):TGraphCall:=cs.getD ((cs.length:Int)-1).toNat ⟨0,0⟩
def enterS (f:FS) (v:Int):FS:=⟨f.index.set v.toNat (f.count+1),f.low.set v.toNat (f.count+1),f.stack++[v],f.part,f.parts,f.count+1⟩
def scanD (s:List Int) (v:Int):Nat→Nat
 |0=>0
 |k+1=>if s.getD k 0=v then k else scanD s v k
def markS (part:List Int) (m:Int) (p:List Int):Nat→List Int
 |0=>part
 |k+1=>(markS part m p k).set (p.getD k 0).toNat m
def closeP (f:FS) (v:Int):List Int:=isr (f.stack.drop (scanD f.stack v f.stack.length))
def closeS (f:FS) (v:Int):FS:=⟨f.index,f.low,f.stack.take (scanD f.stack v f.stack.length),markS f.part ((f.parts.length:Int)+1) (closeP f v) (closeP f v).length,f.parts++[closeP f v],f.count⟩
def lowS (f:FS) (v x:Int):FS:=⟨f.index,f.low.set v.toNat (min (gi f.low v) x),f.stack,f.part,f.parts,f.count⟩
def gpopF (cs:List TGraphCall) (f:FS) (v:Int):FS:=if 0<cs.length then lowS f (topC cs).v (gi f.low v)else f
def popS (cs:List TGraphCall) (f:FS) (v:Int):FS:=if gi (gpopF cs f v).low v=gi (gpopF cs f v).index v then closeS (gpopF cs f v) v else gpopF cs f v
def incC (cs:List TGraphCall):List TGraphCall:=cs.set ((cs.length:Int)-1).toNat ⟨(topC cs).v,(topC cs).i+1⟩
def stepF (nx:Rows) (s:GS):Option GS :=
 if 0<s.calls.length then
   if(topC s.calls).i<(rowA nx (topC s.calls).v.toNat).length then
     if gi s.f.index (gi (rowA nx (topC s.calls).v.toNat) (topC s.calls).i)=0 then some ⟨incC s.calls++[⟨gi (rowA nx (topC s.calls).v.toNat) (topC s.calls).i,0⟩],enterS s.f (gi (rowA nx (topC s.calls).v.toNat) (topC s.calls).i)⟩
     else if gi s.f.part (gi (rowA nx (topC s.calls).v.toNat) (topC s.calls).i)=0 then some ⟨incC s.calls,lowS s.f (topC s.calls).v (gi s.f.index (gi (rowA nx (topC s.calls).v.toNat) (topC s.calls).i))⟩
     else some ⟨incC s.calls,s.f⟩
   else some ⟨s.calls.take (s.calls.length-1),popS (s.calls.take (s.calls.length-1)) s.f (topC s.calls).v⟩
 else none
theorem top_split {cs:List TGraphCall} (h:0<cs.length):cs=cs.take (cs.length-1)++[topC cs]:=by
 have e:((cs.length:Int)-1).toNat=cs.length-1:=by omega
 have e2:topC cs=cs[cs.length-1]:=by
   unfold topC;rw [e,List.getD_eq_getElem?_getD,List.getElem?_eq_getElem (by omega)]
   rfl
 have:=List.take_succ_eq_append_getElem (l:=cs) (i:=cs.length-1) (by omega)
 rw [show cs.length-1+1=cs.length by omega,List.take_length]at this
 rw [e2];exact this
theorem inc_split {cs:List TGraphCall} (h:0<cs.length):incC cs=cs.take (cs.length-1)++[⟨(topC cs).v,(topC cs).i+1⟩]:=by
 have e:((cs.length:Int)-1).toNat=cs.length-1:=by omega
 unfold incC;rw [e];apply List.ext_getElem?;intro j;rw [List.getElem?_set]
 by_cases hj:cs.length-1=j
 ·subst hj;rw [if_pos rfl,if_pos (by omega),List.getElem?_append_right (by simp),List.length_take]
  rw [show cs.length-1-min (cs.length-1) cs.length=0 by omega]
  rfl
 ·rw [if_neg hj]
  by_cases hl:j<cs.length-1
  ·rw [List.getElem?_append_left (by simp;omega),List.getElem?_take_of_lt hl]
  ·rw [List.getElem?_eq_none (by omega),List.getElem?_eq_none (by simp;omega)]
theorem gi_set {l:List Int} {k j x:Int}:gi (l.set k.toNat x) j=if k.toNat=j.toNat∧k.toNat<l.length then x else gi l j:=by
 unfold gi;rw [List.getD_eq_getElem?_getD,List.getD_eq_getElem?_getD,List.getElem?_set]
 by_cases e:k.toNat=j.toNat
 ·by_cases h:k.toNat<l.length
  ·rw [if_pos e,if_pos h,if_pos ⟨e,h⟩];rfl
  ·rw [if_pos e,if_neg h,if_neg (fun q=>h q.2),← e,List.getElem?_eq_none (by omega)]
 ·rw [if_neg e,if_neg (fun q=>e q.1)]
theorem gi_mem {l:List Int} {k:Int} (h:k.toNat<l.length):gi l k∈l:=by
 unfold gi;rw [List.getD_eq_getElem?_getD,List.getElem?_eq_getElem h];exact List.getElem_mem h
def wt:List Int→Rows→Nat
 |x::xs,r::rs=>(if x=0 then r.length+2 else 0)+wt xs rs
 |_,_=>0
theorem wt_set:∀ (l:List Int) (nx:Rows) (k:Nat) (x:Int),k<l.length→k<nx.length→l.getD k 0=0→x≠0→wt (l.set k x) nx+(nx.getD k []).length+2=wt l nx
 |[],_,_,_,h,_,_,_=>absurd h (Nat.not_lt_zero _)
 |_::_,[],_,_,_,h,_,_=>absurd h (Nat.not_lt_zero _)
 |y::l,r::nx,0,x,_,_,h,hx=>by
   have h:y=0:=h;subst h;show(if x=0 then r.length+2 else 0)+wt l nx+r.length+2=(if(0:Int)=0 then r.length+2 else 0)+wt l nx
   rw [if_neg hx,if_pos rfl];omega
 |y::l,r::nx,k+1,x,h1,h2,h,hx=>by
   have ih:=wt_set l nx k x (by simpa using h1) (by simpa using h2) h hx
   show(if y=0 then r.length+2 else 0)+wt (l.set k x) nx+(nx.getD k []).length+2=(if y=0 then r.length+2 else 0)+wt l nx
   omega
def cw (nx:Rows) (cs:List TGraphCall):Nat:=(cs.map fun c=>(rowA nx c.v.toNat).length+1-c.i.toNat).sum
theorem cw_app (nx:Rows) (a b:List TGraphCall):cw nx (a++b)=cw nx a+cw nx b:=by simp [cw]
def muF (nx:Rows) (s:GS):Nat:=wt s.f.index nx+cw nx s.calls
def vis (l:List Int):Nat:=l.countP fun x=>decide (x≠0)
theorem vis_set {l:List Int} {k:Nat} {x:Int} (h:k<l.length) (h0:l.getD k 0=0) (hx:x≠0):vis (l.set k x)=vis l+1:=by
 induction l generalizing k with
 |nil=>exact absurd h (Nat.not_lt_zero _)
 |cons y l ih =>
   cases k with
   |zero =>
     have h0:y=0:=h0;subst h0;simp [vis,hx]
   |succ k =>
     have:=ih (k:=k) (by simpa using h) h0
     simp only [vis,List.set_cons_succ,List.countP_cons]at this ⊢;omega
theorem vis_le (l:List Int):vis l≤l.length:=List.countP_le_length
theorem scan_lt {s:List Int} {v:Int}:∀ {k:Nat},k≤s.length→v∈s.take k→scanD s v k<k∧s[scanD s v k]?=some v∧∀ j,scanD s v k<j→j<k→s[j]?≠some v
 |0,_,h=>by simp at h
 |k+1,hk,h=>by
   have hg:s.getD k 0=s[k]:=by rw [List.getD_eq_getElem?_getD,List.getElem?_eq_getElem (by omega)];rfl
   rw [scanD,hg];split
   ·rename_i e;refine⟨by omega,by rw [List.getElem?_eq_getElem (by omega),e],fun j h1 h2=>by omega⟩
   ·rename_i e
    have hm:v∈s.take k:=by
      rw [List.take_succ_eq_append_getElem (by omega)]at h
      rcases List.mem_append.1 h with h|h
      ·exact h
      ·simp only [List.mem_singleton]at h;exact absurd h.symm e
    obtain⟨h1,h2,h3⟩:=scan_lt (s:=s) (v:=v) (k:=k) (by omega) hm
    refine⟨by omega,h2,fun j h4 h5=>?_⟩
    by_cases hj:j<k
    ·exact h3 j h4 hj
    ·have:j=k:=by omega
     subst this;rw [List.getElem?_eq_getElem (by omega)]
     intro q;exact e (Option.some.inj q)
def inTk (s:List Int) (v:Int) (k:Nat):Prop:=v∈s.take k
theorem inTk_all {s:List Int} {v:Int} (h:v∈s):inTk s v s.length:=by unfold inTk;rw [List.take_length];exact h
theorem scan_hit {s:List Int} {v:Int} {k:Nat} (hq:s.getD k 0=v):scanD s v (k+1)=k:=by
 rw [scanD,if_pos hq]
theorem scan_step {s:List Int} {v:Int} {k:Nat} (hk:k<s.length) (h3:inTk s v (k+1)) (hq:¬ s.getD k 0=v):1≤k∧inTk s v k∧scanD s v (k+1)=scanD s v k:=by
 unfold inTk at h3 ⊢;rw [List.take_succ_eq_append_getElem hk]at h3;rw [List.getD_eq_getElem?_getD,List.getElem?_eq_getElem hk]at hq;rw [scanD,List.getD_eq_getElem?_getD,List.getElem?_eq_getElem hk,if_neg hq];rcases List.mem_append.1 h3 with h3|h3
 ·refine⟨?_,h3,rfl⟩
  cases k with
  |zero=>rw [List.take_zero]at h3;cases h3
  |succ k=>omega
 ·exact absurd (List.mem_singleton.1 h3).symm hq
theorem take_all {l:List Int} {k n:Nat} (h:l.length≤n+k):List.take n (List.drop k l)=List.drop k l:=by
 rw [List.take_of_length_le];rw [List.length_drop];omega
theorem sub_take {cs s:List Int} {v:Int} (h:(cs++[v]).Sublist s):cs.Sublist (s.take (scanD s v s.length))∧v∈s:=by
 obtain⟨s1,s2,rfl,h1,h2⟩:=List.append_sublist_iff.1 h;have hv:v∈s2:=h2.subset (List.mem_singleton.2 rfl);have hv2:v∈(s1++s2).take (s1++s2).length:=by rw [List.take_length];exact List.mem_append_right _ hv
 obtain⟨q1,q2,q3⟩:=scan_lt (Nat.le_refl _) hv2;refine⟨?_,List.mem_append_right _ hv⟩;obtain⟨j,hj,e⟩:=List.getElem_of_mem hv
 have hle:s1.length≤scanD (s1++s2) v (s1++s2).length:=by
   by_cases hc:s1.length+j≤scanD (s1++s2) v (s1++s2).length
   ·omega
   ·refine absurd ?_ (q3 (s1.length+j) (by omega) (by simp;omega))
    rw [List.getElem?_append_right (by omega),show s1.length+j-s1.length=j by omega,List.getElem?_eq_getElem hj,e]
 rw [List.take_append,List.take_of_length_le hle];exact h1.trans (List.sublist_append_left _ _)
theorem mark_l (part:List Int) (m:Int) (p:List Int):∀ k,(markS part m p k).length=part.length
 |0=>rfl
 |k+1=>(List.length_set ..).trans (mark_l part m p k)
theorem mark_g {part:List Int} {m:Int} {p:List Int} (hp:∀ w∈p,0≤w∧w<part.length) {v:Int} (hv:0≤v):∀ k,k≤p.length→gi (markS part m p k) v=if v∈p.take k then m else gi part v
 |0,_=>by simp [markS]
 |k+1,hk=>by
   have hg:p.getD k 0=p[k]:=by rw [List.getD_eq_getElem?_getD,List.getElem?_eq_getElem (by omega)];rfl
   have hpk:=hp p[k] (List.getElem_mem _);rw [markS,hg,gi_set,mark_l,mark_g hp hv k (by omega),List.take_succ_eq_append_getElem (by omega)]
   by_cases e:v=p[k]
   ·subst e;rw [if_pos ⟨rfl,by omega⟩,if_pos (List.mem_append_right _ (List.mem_singleton.2 rfl))]
   ·rw [if_neg (fun q=>e (by omega))]
    by_cases hm:v∈p.take k
    ·rw [if_pos hm,if_pos (List.mem_append_left _ hm)]
    ·rw [if_neg hm,if_neg (fun q=>(List.mem_append.1 q).elim hm fun q=>e (List.mem_singleton.1 q))]
theorem isr_mem {l:List Int} {x:Int}:x∈isr l↔x∈l:=List.mem_mergeSort
theorem isr_len (l:List Int):(isr l).length=l.length:=List.length_mergeSort ..
theorem close_eq {index low:List Int} {count:Int} {stack part:List Int} {parts:Rows} {v:Int} {k:Nat} (hk:k<stack.length) (hsc:scanD stack v stack.length=k):isr ([]++List.take ((stack.length:Int)-k).toNat (List.drop (k:Int).toNat stack))=closeP ⟨index,low,stack,part,parts,count⟩ v:=by
 unfold closeP;rw [hsc,Int.toNat_natCast,List.nil_append,take_all];omega
theorem close_rng {index low:List Int} {count:Int} {P stack part:List Int} {parts:Rows} {v N:Int} (hP:P=closeP ⟨index,low,stack,part,parts,count⟩ v) (hr:∀ w,inTk stack w stack.length→0≤w∧w<N) (j:Nat) (hj:j<P.length):0≤gi P j∧gi P j<N:=by
 refine hr _ ?_;unfold inTk;rw [List.take_length];have hm:gi P j∈P:=gi_mem (by simpa using hj)
 rw [hP]at hm ⊢;exact List.mem_of_mem_drop (isr_mem.1 hm)
theorem close_len {index low:List Int} {count:Int} {P stack part:List Int} {parts:Rows} {v:Int} (hP:P=closeP ⟨index,low,stack,part,parts,count⟩ v):P.length≤stack.length:=by
 rw [hP];unfold closeP;rw [isr_len,List.length_drop];exact Nat.sub_le _ _
theorem close_end {index low:List Int} {count:Int} {P stack part:List Int} {parts:Rows} {v:Int} {k:Nat} (hsc:scanD stack v stack.length=k) (hP:P=closeP ⟨index,low,stack,part,parts,count⟩ v) :
   List.take ((k:Int).toNat-0) (List.drop 0 stack)=(closeS ⟨index,low,stack,part,parts,count⟩ v).stack∧markS part ((parts++[P]).length:Nat) P P.length=(closeS ⟨index,low,stack,part,parts,count⟩ v).part∧parts++[P]=(closeS ⟨index,low,stack,part,parts,count⟩ v).parts:=by
 unfold closeS;rw [hsc,← hP];refine⟨rfl,?_,rfl⟩;rw [List.length_append];rfl
structure NxOk (nx:Rows) (n:Nat):Prop where
 len:nx.length=n
 el:∀ r∈nx,∀ w∈r,0≤w∧w<n
theorem NxOk.row {nx:Rows} {n:Nat} (h:NxOk nx n) (v:Nat):∀ w∈rowA nx v,0≤w∧w<n:=by
 unfold rowA;rw [List.getD_eq_getElem?_getD]
 by_cases hv:v<nx.length
 ·rw [List.getElem?_eq_getElem hv];exact h.el _ (List.getElem_mem hv)
 ·rw [List.getElem?_eq_none (by omega)]
  intro w hw;cases hw
structure FOk (nx:Rows) (n:Nat) (idx0:List Int) (f:FS):Prop where
 li:f.index.length=n
 ll:f.low.length=n
 lp:f.part.length=n
 cnt:f.count=(vis f.index:Nat)
 stk:f.stack.length≤vis f.index
 sr:∀ v∈f.stack,0≤v∧v<n
 p0:∀ v:Int,0≤v→v<n→0≤gi f.part v∧gi f.part v≤f.parts.length
 pn:∀ p∈f.parts,p≠[]∧∀ w∈p,0≤w∧w<n
 seen:∀ v:Int,0≤v→v<n→gi f.index v≠0→1≤gi f.part v∨v∈f.stack
 nd:f.stack.Nodup
 ile:∀ v:Int,0≤v→v<n→gi f.index v≤f.count
 mono:∀ v:Int,0≤v→v<n→gi idx0 v≠0→gi f.index v≠0
structure GOk (nx:Rows) (n:Nat) (idx0:List Int) (root R:Int) (s:GS):Prop extends FOk nx n idx0 s.f where
 R1:1≤R
 cl:s.calls.length+s.f.parts.length≤vis s.f.index
 cv:∀ c∈s.calls,0≤c.v∧c.v<n∧0≤c.i∧c.i≤(rowA nx c.v.toNat).length
 sub:(s.calls.map fun c=>c.v).Sublist s.f.stack
 sv:∀ v∈s.f.stack,R≤gi s.f.index v∧R≤gi s.f.low v
 hd:s.calls≠[]→(s.calls.map fun c=>c.v).head? = some root∧s.f.stack.head? = some root
 rt:0≤root∧root<n∧gi s.f.index root=R∧gi s.f.low root≤R
 fin:s.calls=[]→s.f.stack=[]
section
variable {nx:Rows} {n:Nat} {idx0:List Int} {root R:Int}
theorem low_ok {s:GS} (h:GOk nx n idx0 root R s) {v x:Int} (hv:v∈s.f.stack) (hx:R≤x):GOk nx n idx0 root R ⟨s.calls,lowS s.f v x⟩:=by
 have hr:=h.sr v hv;have hl:=h.ll
 have key:∀ u:Int,0≤u→gi (lowS s.f v x).low u=if u=v then min (gi s.f.low v) x else gi s.f.low u:=fun u hu=>by
   show gi (s.f.low.set v.toNat _) u=_;rw [gi_set]
   by_cases e:u=v
   ·subst e;rw [if_pos ⟨rfl,by omega⟩,if_pos rfl]
   ·rw [if_neg (fun q=>e (by omega)),if_neg e]
 refine⟨⟨h.li,by show(s.f.low.set _ _).length=n;rw [List.length_set];exact hl,h.lp,h.cnt,h.stk,h.sr,h.p0,h.pn,h.seen,h.nd,h.ile,h.mono⟩,h.R1,h.cl,h.cv,h.sub,fun u hu=>⟨(h.sv u hu).1,?_⟩,h.hd,⟨h.rt.1,h.rt.2.1,h.rt.2.2.1,?_⟩,h.fin⟩
 ·rw [key u (h.sr u hu).1];have:=(h.sv u hu).2;have:=(h.sv v hv).2;split
  ·exact Int.le_min.2 ⟨by assumption,hx⟩
  ·assumption
 ·rw [key root h.rt.1];have:=h.rt.2.2.2;split
  ·rename_i e;subst e;exact Int.le_trans (Int.min_le_left _ _) this
  ·exact this
theorem top_mem {s:GS} (h:GOk nx n idx0 root R s) (hc:0<s.calls.length):topC s.calls∈s.calls:=by
 have:=top_split hc;rw [this];exact List.mem_append_right _ (by rw [← this];exact List.mem_singleton.2 rfl)
theorem top_stack {s:GS} (h:GOk nx n idx0 root R s) (hc:0<s.calls.length):(topC s.calls).v∈s.f.stack:=h.sub.subset (List.mem_map.2 ⟨_,top_mem h hc,rfl⟩)
theorem inc_ok {s:GS} (h:GOk nx n idx0 root R s) (hc:0<s.calls.length) (hi:(topC s.calls).i<(rowA nx (topC s.calls).v.toNat).length):GOk nx n idx0 root R ⟨incC s.calls,s.f⟩∧cw nx (incC s.calls)<cw nx s.calls:=by
 have e1:=top_split hc;have e2:=inc_split hc;have hcv:=h.cv _ (top_mem h hc);generalize hcs:s.calls.take (s.calls.length-1)=cs0 at e1 e2;generalize hcc:topC s.calls=c at e1 e2 hcv hi;have hmap:(incC s.calls).map (fun c=>c.v)=s.calls.map fun c=>c.v:=by rw [e2,e1];simp
 have hlen:(incC s.calls).length=s.calls.length:=by rw [e2,e1];simp
 refine⟨⟨h.toFOk,h.R1,by show(incC s.calls).length+_≤_;rw [hlen];exact h.cl,fun d hd=>?_,by show((incC s.calls).map _).Sublist _;rw [hmap];exact h.sub,h.sv,fun hne=>?_,h.rt,fun he=>?_⟩,?_⟩
 ·have hd:d∈incC s.calls:=hd;rw [e2]at hd;rcases List.mem_append.1 hd with hd|hd
  ·exact h.cv d (by rw [e1];exact List.mem_append_left _ hd)
  ·cases List.mem_singleton.1 hd;exact⟨hcv.1,hcv.2.1,by show 0≤c.i+1;omega,by show c.i+1≤((rowA nx c.v.toNat).length:Int);omega⟩
 ·show((incC s.calls).map _).head? = _∧_;rw [hmap];exact h.hd (fun e=>by rw [e]at hc;simp at hc)
 ·have he:incC s.calls=[]:=he;rw [e2]at he;simp at he
 ·rw [e2,e1,cw_app,cw_app];have:(c.i+1).toNat=c.i.toNat+1:=by omega
  simp only [cw,List.map_cons,List.map_nil,List.sum_cons,List.sum_nil,this];omega
theorem enter_ok {s:GS} (hx:NxOk nx n) (h:GOk nx n idx0 root R s) (hc:0<s.calls.length) {w:Int} (hw:0≤w∧w<n) (h0:gi s.f.index w=0):GOk nx n idx0 root R ⟨s.calls++[⟨w,0⟩],enterS s.f w⟩∧muF nx ⟨s.calls++[⟨w,0⟩],enterS s.f w⟩<muF nx s:=by
 have hcnt:=h.cnt;have hne:s.f.count+1≠0:=by omega
 have hwi:w.toNat<s.f.index.length:=by rw [h.li];omega
 have hwl:w.toNat<s.f.low.length:=by rw [h.ll];omega
 have hv:vis (s.f.index.set w.toNat (s.f.count+1))=vis s.f.index+1:=vis_set hwi h0 hne
 have ki:∀ u:Int,0≤u→gi (s.f.index.set w.toNat (s.f.count+1)) u=if u=w then s.f.count+1 else gi s.f.index u:=fun u hu=>by
   rw [gi_set]
   by_cases e:u=w
   ·subst e;rw [if_pos ⟨rfl,hwi⟩,if_pos rfl]
   ·rw [if_neg (fun q=>e (by omega)),if_neg e]
 have kl:∀ u:Int,0≤u→gi (s.f.low.set w.toNat (s.f.count+1)) u=if u=w then s.f.count+1 else gi s.f.low u:=fun u hu=>by
   rw [gi_set]
   by_cases e:u=w
   ·subst e;rw [if_pos ⟨rfl,hwl⟩,if_pos rfl]
   ·rw [if_neg (fun q=>e (by omega)),if_neg e]
 have hns:w ∉ s.f.stack:=fun hm=>by
   have:=(h.sv w hm).1;have:=h.R1;omega
 have hRc:R≤s.f.count:=by
   have:=h.ile root h.rt.1 h.rt.2.1;rw [h.rt.2.2.1]at this;exact this
 have hcl:s.calls≠[]:=fun e=>by rw [e]at hc;simp at hc
 obtain⟨hd1,hd2⟩:=h.hd hcl;refine⟨⟨⟨?_,?_,h.lp,?_,?_,?_,h.p0,h.pn,?_,?_,?_,?_⟩,h.R1,?_,?_,?_,?_,?_,⟨h.rt.1,h.rt.2.1,?_,?_⟩,?_⟩,?_⟩
 ·show(s.f.index.set _ _).length=n;rw [List.length_set];exact h.li
 ·show(s.f.low.set _ _).length=n;rw [List.length_set];exact h.ll
 ·show s.f.count+1=(vis (s.f.index.set _ _):Nat);rw [hv];omega
 ·show(s.f.stack++[w]).length≤vis (s.f.index.set _ _);rw [hv];have:=h.stk;simp;omega
 ·intro v hv';rcases List.mem_append.1 hv' with hv'|hv'
  ·exact h.sr v hv'
  ·cases List.mem_singleton.1 hv';exact hw
 ·intro v h1 h2 h3;have h3:gi (s.f.index.set w.toNat (s.f.count+1)) v≠0:=h3;rw [ki v h1]at h3
  by_cases e:v=w
  ·subst e;exact .inr (List.mem_append_right _ (List.mem_singleton.2 rfl))
  ·rw [if_neg e]at h3;exact(h.seen v h1 h2 h3).imp id (List.mem_append_left _)
 ·show(s.f.stack++[w]).Nodup;rw [List.nodup_append];exact⟨h.nd,by simp,fun a ha b hb=>by cases List.mem_singleton.1 hb;exact fun e=>hns (e▸ha)⟩
 ·intro v h1 h2;show gi (s.f.index.set w.toNat (s.f.count+1)) v≤s.f.count+1;rw [ki v h1];have:=h.ile v h1 h2;split<;>omega
 ·intro v h1 h2 h3;show gi (s.f.index.set w.toNat (s.f.count+1)) v≠0;rw [ki v h1];have:=h.mono v h1 h2 h3;split<;>assumption
 ·show(s.calls++[(⟨w,0⟩:TGraphCall)]).length+s.f.parts.length≤vis (s.f.index.set _ _);rw [hv];have:=h.cl;simp;omega
 ·intro c hcm;rcases List.mem_append.1 hcm with hcm|hcm
  ·exact h.cv c hcm
  ·cases List.mem_singleton.1 hcm;exact⟨hw.1,hw.2,Int.le_refl _,Int.natCast_nonneg _⟩
 ·show((s.calls++[(⟨w,0⟩:TGraphCall)]).map fun c=>c.v).Sublist (s.f.stack++[w])
  rw [List.map_append];exact List.Sublist.append h.sub (List.Sublist.refl _)
 ·intro v hv';show R≤gi (s.f.index.set w.toNat (s.f.count+1)) v∧R≤gi (s.f.low.set w.toNat (s.f.count+1)) v;rcases List.mem_append.1 hv' with hv'|hv'
  ·have hvw:v≠w:=fun e=>hns (e▸hv')
   rw [ki v (h.sr v hv').1,kl v (h.sr v hv').1,if_neg hvw,if_neg hvw];exact h.sv v hv'
  ·cases List.mem_singleton.1 hv';rw [ki _ hw.1,kl _ hw.1,if_pos rfl,if_pos rfl];omega
 ·intro _;show((s.calls++[(⟨w,0⟩:TGraphCall)]).map fun c=>c.v).head? = some root∧(s.f.stack++[w]).head? = some root
  rw [List.map_append,List.head?_append,List.head?_append,hd1,hd2];exact⟨rfl,rfl⟩
 ·show gi (s.f.index.set w.toNat (s.f.count+1)) root=R;have hrw:root≠w:=fun e=>by have:=h.rt.2.2.1;have:=h.R1;rw [e]at *;omega
  rw [ki root h.rt.1,if_neg hrw];exact h.rt.2.2.1
 ·show gi (s.f.low.set w.toNat (s.f.count+1)) root≤R;have hrw:root≠w:=fun e=>by have:=h.rt.2.2.1;have:=h.R1;rw [e]at *;omega
  rw [kl root h.rt.1,if_neg hrw];exact h.rt.2.2.2
 ·intro e;have e:s.calls++[(⟨w,0⟩:TGraphCall)]=[]:=e;simp at e
 ·show wt (s.f.index.set w.toNat (s.f.count+1)) nx+cw nx (s.calls++[⟨w,0⟩])<wt s.f.index nx+cw nx s.calls;have hq:=wt_set s.f.index nx w.toNat (s.f.count+1) hwi (by rw [hx.len];omega) h0 hne
  rw [cw_app];have e:cw nx [(⟨w,0⟩:TGraphCall)]=(nx.getD w.toNat []).length+1:=by simp [cw,rowA]
  rw [e];omega
theorem start_ok (hx:NxOk nx n) {f:FS} (h:FOk nx n idx0 f) (hs:f.stack=[]) (hp:f.parts.length≤vis f.index) (hw:0≤root∧root<n) (h0:gi f.index root=0):GOk nx n idx0 root (f.count+1) ⟨[⟨root,0⟩],enterS f root⟩:=by
 have hcnt:=h.cnt;have hne:f.count+1≠0:=by omega
 have hwi:root.toNat<f.index.length:=by rw [h.li];omega
 have hwl:root.toNat<f.low.length:=by rw [h.ll];omega
 have hv:vis (f.index.set root.toNat (f.count+1))=vis f.index+1:=vis_set hwi h0 hne
 have ki:∀ u:Int,0≤u→gi (f.index.set root.toNat (f.count+1)) u=if u=root then f.count+1 else gi f.index u:=fun u hu=>by
   rw [gi_set]
   by_cases e:u=root
   ·subst e;rw [if_pos ⟨rfl,hwi⟩,if_pos rfl]
   ·rw [if_neg (fun q=>e (by omega)),if_neg e]
 have kl:∀ u:Int,0≤u→gi (f.low.set root.toNat (f.count+1)) u=if u=root then f.count+1 else gi f.low u:=fun u hu=>by
   rw [gi_set]
   by_cases e:u=root
   ·subst e;rw [if_pos ⟨rfl,hwl⟩,if_pos rfl]
   ·rw [if_neg (fun q=>e (by omega)),if_neg e]
 have hst:f.stack++[root]=[root]:=by rw [hs];rfl
 refine⟨⟨?_,?_,h.lp,?_,?_,?_,h.p0,h.pn,?_,?_,?_,?_⟩,by omega,?_,?_,?_,?_,?_,⟨hw.1,hw.2,?_,?_⟩,?_⟩
 ·show(f.index.set _ _).length=n;rw [List.length_set];exact h.li
 ·show(f.low.set _ _).length=n;rw [List.length_set];exact h.ll
 ·show f.count+1=(vis (f.index.set _ _):Nat);rw [hv];omega
 ·show(f.stack++[root]).length≤vis (f.index.set _ _);rw [hv,hst];simp
 ·intro v hv';have hv':v∈f.stack++[root]:=hv';rw [hst]at hv';cases List.mem_singleton.1 hv';exact hw
 ·intro v h1 h2 h3;have h3:gi (f.index.set root.toNat (f.count+1)) v≠0:=h3;rw [ki v h1]at h3
  by_cases e:v=root
  ·subst e;exact .inr (List.mem_append_right _ (List.mem_singleton.2 rfl))
  ·rw [if_neg e]at h3;exact(h.seen v h1 h2 h3).imp id (List.mem_append_left _)
 ·show(f.stack++[root]).Nodup;rw [hst];simp
 ·intro v h1 h2;show gi (f.index.set root.toNat (f.count+1)) v≤f.count+1;rw [ki v h1];have:=h.ile v h1 h2;split<;>omega
 ·intro v h1 h2 h3;show gi (f.index.set root.toNat (f.count+1)) v≠0;rw [ki v h1];have:=h.mono v h1 h2 h3;split<;>assumption
 ·show 1+f.parts.length≤vis (f.index.set _ _);rw [hv];omega
 ·intro c hcm;cases List.mem_singleton.1 hcm;exact⟨hw.1,hw.2,Int.le_refl _,Int.natCast_nonneg _⟩
 ·show [root].Sublist (f.stack++[root]);rw [hst];exact List.Sublist.refl _
 ·intro v hv';have hv':v∈f.stack++[root]:=hv';rw [hst]at hv';cases List.mem_singleton.1 hv';show _≤gi (f.index.set root.toNat (f.count+1)) root∧_≤gi (f.low.set root.toNat (f.count+1)) root;rw [ki _ hw.1,kl _ hw.1,if_pos rfl,if_pos rfl];exact⟨Int.le_refl _,Int.le_refl _⟩
 ·intro _;show [root].head? = some root∧(f.stack++[root]).head? = some root;rw [hst];exact⟨rfl,rfl⟩
 ·show gi (f.index.set root.toNat (f.count+1)) root=_;rw [ki root hw.1,if_pos rfl]
 ·show gi (f.low.set root.toNat (f.count+1)) root≤_;rw [kl root hw.1,if_pos rfl];exact Int.le_refl _
 ·intro e;cases e
theorem pop_ok {s:GS} (h:GOk nx n idx0 root R s) (hc:0<s.calls.length) (hi:¬ (topC s.calls).i<(rowA nx (topC s.calls).v.toNat).length) :
   GOk nx n idx0 root R ⟨s.calls.take (s.calls.length-1),popS (s.calls.take (s.calls.length-1)) s.f (topC s.calls).v⟩∧muF nx ⟨s.calls.take (s.calls.length-1),popS (s.calls.take (s.calls.length-1)) s.f (topC s.calls).v⟩<muF nx s:=by
 have e1:=top_split hc;have hcv:=h.cv _ (top_mem h hc);have hvs:=top_stack h hc;have hclen:(s.calls.take (s.calls.length-1)).length=s.calls.length-1:=by simp
 generalize hcs:s.calls.take (s.calls.length-1)=cs0 at e1 hclen;generalize hcc:topC s.calls=c at e1 hcv hi hvs;have hmap:(s.calls.map fun c=>c.v)=(cs0.map fun c=>c.v)++[c.v]:=by rw [e1];simp
 have h1:GOk nx n idx0 root R ⟨s.calls,gpopF cs0 s.f c.v⟩:=by
   unfold gpopF;split
   ·rename_i h0;refine low_ok h (h.sub.subset ?_) (h.sv _ hvs).2;rw [hmap];refine List.mem_append_left _ (List.mem_map.2 ⟨topC cs0,?_,rfl⟩);have e2:=top_split h0;rw [e2];exact List.mem_append_right _ (by rw [← e2];exact List.mem_singleton.2 rfl)
   ·exact h
 have hidx:(gpopF cs0 s.f c.v).index=s.f.index:=by unfold gpopF;split<;>rfl
 generalize hf:gpopF cs0 s.f c.v=f1 at h1 hidx
 have hvs1:c.v∈f1.stack:=by
   have:c.v∈(s.calls.map fun c=>c.v):=by rw [hmap];exact List.mem_append_right _ (List.mem_singleton.2 rfl)
   exact h1.sub.subset this
 have hsub:((cs0.map fun c=>c.v)++[c.v]).Sublist f1.stack:=by rw [← hmap];exact h1.sub
 have hne:s.calls≠[]:=fun e=>by rw [e]at hc;simp at hc
 obtain⟨hd1,hd2⟩:=h1.hd hne;have hd1:((cs0.map fun c=>c.v)++[c.v]).head? = some root:=by rw [← hmap];exact hd1
 have hd2:f1.stack.head? = some root:=hd2
 have hhead:cs0≠[]→(cs0.map fun c=>c.v).head? = some root:=fun hq=>by
   rw [List.head?_append]at hd1
   cases hm:(cs0.map fun c=>c.v).head? with
   |none =>
     rw [List.head?_eq_none_iff,List.map_eq_nil_iff]at hm;exact absurd hm hq
   |some x=>rw [hm]at hd1;exact hd1
 have hroot:cs0=[]→c.v=root:=fun hq=>by
   rw [hq]at hd1;exact Option.some.inj hd1
 have hmu:∀ f:FS,f.index=s.f.index→muF nx ⟨cs0,f⟩<muF nx s:=fun f hfi=>by
   show wt f.index nx+cw nx cs0<wt s.f.index nx+cw nx s.calls;rw [hfi,e1,cw_app];have:cw nx [c]=(rowA nx c.v.toNat).length+1-c.i.toNat:=by simp [cw]
   have:=hcv.2.2;omega
 have hlen:s.calls.length=cs0.length+1:=by rw [e1];simp
 have hcl:=h1.cl;have hcl:s.calls.length+f1.parts.length≤vis f1.index:=hcl;unfold popS;rw [hf];split
 ·
   obtain⟨t1,t2⟩:=sub_take hsub;have hm2:c.v∈f1.stack.take f1.stack.length:=by rw [List.take_length];exact t2
   obtain⟨q1,q2,q3⟩:=scan_lt (Nat.le_refl _) hm2;generalize hi0:scanD f1.stack c.v f1.stack.length=i0 at t1 q1 q2 q3;have hP:closeP f1 c.v=isr (f1.stack.drop i0):=by unfold closeP;rw [hi0]
   have hPr:∀ w∈closeP f1 c.v,0≤w∧w<f1.part.length:=fun w hw=>by
     rw [hP]at hw;have hlp:f1.part.length=n:=h1.lp;rw [hlp];exact h1.sr w (List.mem_of_mem_drop (isr_mem.1 hw))
   have hmk:∀ v:Int,0≤v→gi (markS f1.part ((f1.parts.length:Int)+1) (closeP f1 c.v) (closeP f1 c.v).length) v=if v∈closeP f1 c.v then(f1.parts.length:Int)+1 else gi f1.part v:=fun v hv=>by
     rw [mark_g hPr hv _ (Nat.le_refl _),List.take_length]
   have hst:(closeS f1 c.v).stack=f1.stack.take i0:=by unfold closeS;rw [hi0]
   have hFS:closeS f1 c.v=⟨f1.index,f1.low,f1.stack.take i0,markS f1.part ((f1.parts.length:Int)+1) (closeP f1 c.v) (closeP f1 c.v).length,f1.parts++[closeP f1 c.v],f1.count⟩:=by unfold closeS;rw [hi0]
   rw [hFS];refine⟨⟨⟨h1.li,h1.ll,(mark_l ..).trans h1.lp,h1.cnt,?_,fun v hv=>h1.sr v (List.mem_of_mem_take hv),?_,?_,?_,h1.nd.sublist (List.take_sublist _ _),h1.ile,h1.mono⟩,h1.R1,?_,fun d hd=>h1.cv d (by rw [e1];exact List.mem_append_left _ hd),t1,fun v hv=>h1.sv v (List.mem_of_mem_take hv),?_,h1.rt,?_⟩,hmu _ hidx⟩
   ·show(f1.stack.take i0).length≤vis f1.index;have:=h1.stk;have:f1.stack.length≤vis f1.index:=this;simp;omega
   ·intro v h2 h3;show 0≤gi (markS ..) v∧gi (markS ..) v≤((f1.parts++[closeP f1 c.v]).length:Nat);rw [hmk v h2];have:=h1.p0 v h2 h3;have:0≤gi f1.part v∧gi f1.part v≤f1.parts.length:=this;rw [List.length_append];split
    ·simp;omega
    ·simp;omega
   ·intro p hp;rcases List.mem_append.1 hp with hp|hp
    ·exact h1.pn p hp
    ·cases List.mem_singleton.1 hp;refine⟨fun e=>?_,fun w hw=>?_⟩
     ·have:=isr_len (f1.stack.drop i0);rw [← hP,e]at this;simp at this;omega
     ·have hlp:f1.part.length=n:=h1.lp;have:=hPr w hw;rw [hlp]at this;exact this
   ·intro v h2 h3 h4;show 1≤gi (markS ..) v∨v∈f1.stack.take i0;rw [hmk v h2];rcases h1.seen v h2 h3 h4 with h5|h5
    ·have h5:1≤gi f1.part v:=h5;left;split<;>omega
    ·have h5:v∈f1.stack:=h5;rw [← List.take_append_drop i0 f1.stack]at h5;rcases List.mem_append.1 h5 with h5|h5
     ·exact .inr h5
     ·left;rw [if_pos (by rw [hP];exact isr_mem.2 h5)]
      omega
   ·show cs0.length+(f1.parts++[closeP f1 c.v]).length≤vis f1.index;simp;omega
   ·intro hq;refine⟨hhead hq,?_⟩;show(f1.stack.take i0).head? = some root
    cases i0 with
    |zero =>
      rw [List.take_zero]at t1;have:=List.eq_nil_of_sublist_nil t1;rw [List.map_eq_nil_iff]at this;exact absurd this hq
    |succ k=>rw [List.head?_take,if_neg (by omega)];exact hd2
   ·intro hq;have hr:=hroot hq
    have hz:i0=0:=by
      rw [List.head?_eq_getElem?]at hd2;rw [hr]at q2;exact(List.getElem?_inj (by omega) h1.nd).1 (q2.trans hd2.symm)
    show f1.stack.take i0=[];rw [hz];rfl
 ·rename_i hnc;refine⟨⟨h1.toFOk,h1.R1,?_,fun d hd=>h1.cv d (by rw [e1];exact List.mem_append_left _ hd),(List.sublist_append_left _ _).trans hsub,h1.sv,fun hq=>⟨hhead hq,hd2⟩,h1.rt,fun hq=>?_⟩,hmu _ hidx⟩
  ·show cs0.length+f1.parts.length≤vis f1.index;omega
  ·refine absurd ?_ hnc;have hr:=hroot hq;have a1:=(h1.sv _ hvs1).2;have a1:R≤gi f1.low c.v:=a1;have a2:=h1.rt.2.2;have a2:gi f1.index root=R∧gi f1.low root≤R:=a2;rw [hr]at a1 ⊢;omega
theorem step_ok (hx:NxOk nx n) {s s':GS} (h:GOk nx n idx0 root R s) (hs:stepF nx s=some s'):GOk nx n idx0 root R s'∧muF nx s'<muF nx s:=by
 unfold stepF at hs;split at hs
 ·rename_i hc;split at hs
  ·rename_i hi;obtain⟨h1,h2⟩:=inc_ok h hc hi;have hcv:=h.cv _ (top_mem h hc);have hw:=hx.row (topC s.calls).v.toNat (gi (rowA nx (topC s.calls).v.toNat) (topC s.calls).i) (gi_mem (by omega))
   have hlen:0<(incC s.calls).length:=by rw [inc_split hc];simp
   split at hs
   ·rename_i h0;cases hs;obtain⟨h3,h4⟩:=enter_ok hx h1 hlen hw h0;exact⟨h3,Nat.lt_trans h4 (Nat.add_lt_add_left h2 _)⟩
   ·rename_i h0;split at hs
    ·rename_i hp;cases hs
     have hst:gi (rowA nx (topC s.calls).v.toNat) (topC s.calls).i∈s.f.stack:=by
       rcases h.seen _ hw.1 hw.2 h0 with h5|h5
       ·omega
       ·exact h5
     exact⟨low_ok h1 (top_stack h hc) (h.sv _ hst).1,Nat.add_lt_add_left h2 _⟩
    ·cases hs;exact⟨h1,Nat.add_lt_add_left h2 _⟩
  ·rename_i hi;cases hs;exact pop_ok h hc hi
 ·cases hs
end
end Go.SX
namespace Go.SX
open Go.XK Go.RowKit
noncomputable def I_Bp:Inl E0:=Inl.of 146 Proofs.Tryz.f146 rfl rfl (by unfold FnOK;kernel_rfl)
set_option maxHeartbeats 4000000 in
theorem hc_close {zn z1 z2 z3 z4 z5:Option Bool} {nx:List (TabT 12)} {index low stack part:List (TabT 0)} {count:Int} {parts:List (TabT 12)} {v:Int} (hv:inTk stack v (List.length (α:=Int) stack)) (hs:List.length (α:=TabT 0) stack≤262144) (hp:List.length (α:=TabT 12) parts≤262144) (hr:∀ w:Int,inTk stack w (List.length (α:=Int) stack)→0≤w∧w<(List.length (α:=TabT 0) part:Nat)):HC E0 153 6 [.loc 0 0,.i v] [(0,.row 198 [.lst zn 12 nx,.osl 1,.osl 2,.osl 3,.osl 4,.osl 5]),(1,.arr 3 z1 0 index),(2,.arr 3 z2 0 low),(3,.arr 3 z3 0 stack),(4,.arr 3 z4 0 part),(5,.arr 25 z5 12 parts)] (fun s H n=>s=.tup []∧H=[(0,.row 198 [.lst zn 12 nx,.osl 1,.osl 2,.osl 6,.osl 4,.osl 7]),(1,.arr 3 z1 0 index),(2,.arr 3 z2 0 low),(6,.arr 3 none 0 (closeS ⟨index,low,stack,part,parts,count⟩ v).stack),(4,.arr 3 none 0 (closeS ⟨index,low,stack,part,parts,count⟩ v).part),(7,.arr 25 none 12 (closeS ⟨index,low,stack,part,parts,count⟩ v).parts)]∧n=8):=by
 refine calls_hc (DB:=[]) (IL:=[I_Bp]) (WL:=[]) (fn:=Proofs.Tryz.f153) rfl rfl rfl rfl (by unfold FnOK;kernel_rfl) (fun hk=>?_)
 simp only [know]at hk
 repeat' (refine bc_ fun g_=>?_;(conv at g_=>(arg 1;whnf));refine g_ ?_;clear g_;first|(intro bq;cases bq;rotate_left;(focus (intro hbq;exact absurd (hbq rfl) (by omega)));intro _)|((fail_if_success (fail_if_success (apply Or.inl)));refine Or.inl ⟨_,_,_,_,[7],hc_sort _ _,rfl,rfl,rfl,rfl,rfl,(And.intro rfl trivial),?_⟩;(rintro _ _ _ ⟨rfl,rfl,rfl⟩;refine And.intro rfl (And.intro rfl ?_)))|((fail_if_success (apply cH_));(fail_if_success (apply uR_));apply Or.inl)|(apply rn_;exact rm_;exact me_)|(apply mt_;exact me_)|((fail_if_success (fail_if_success (apply Exists.intro)));first|(refine ⟨[1,1,1,0,1,1,1,1,0,0,1,3],[0,1,2,4,5,6,7,3,8,9,10,11],(by decide +kernel),?_⟩;(conv=>whnf);(fail_if_success (apply fa_))))|(apply ob0_;first|(exact hL _ _)|exact obc_|(show(List.length (α:=TabT 12) parts+1)*24≤140737488355328<;>omega)|(exact of_decide_eq_true rfl))|(apply And.intro<;>(intro h;have hc:=h;(try exact nc1_ hc);(try exact nc2_ hc);try simp only [bs]at h))|(intro h;(try (unfold und at h;conv at h=>whnf));try simp only [bs]at h)|(apply wr0_;exact wrc_)|(apply wg0_;exact wgc_))
 all_goals (conv=>whnf)
 refine Or.inr (Or.inr ⟨[],[4],[],[],[0,1],[],?_⟩);conv=>whnf
 have hsl:0<List.length (α:=TabT 0) stack:=List.length_pos_of_mem (List.mem_of_mem_take hv);refine⟨fun(s:Int×Unit) (_:Unit)=>0≤s.1∧s.1<(List.length (α:=TabT 0) stack:Nat)∧scanD stack v (List.length (α:=Int) stack)=scanD stack v (s.1.toNat+1)∧inTk stack v (s.1.toNat+1),fun(s:Int×Unit) _=>s.1.toNat,?_⟩
 conv=>whnf
 have hlz:((List.length (α:=TabT 0) stack:Int)-1).toNat+1=List.length (α:=Int) stack:=by
   show((List.length (α:=TabT 0) stack:Int)-1).toNat+1=List.length (α:=TabT 0) stack;omega
 refine Ini.mk ⟨by(try dsimp only);omega,by(try dsimp only);omega,?_,?_⟩ me_ ?_
 ·show scanD stack v _=scanD stack v (((List.length (α:=TabT 0) stack:Int)-1).toNat+1);rw [hlz]
 ·show inTk stack v (((List.length (α:=TabT 0) stack:Int)-1).toNat+1);rw [hlz];exact hv
 rintro⟨(k:Int),_⟩ _ ⟨h0,h1,h2,h3⟩
 try dsimp only at h0 h1 h2 h3
 obtain⟨k,rfl⟩:=Int.eq_ofNat_of_zero_le h0;rw [Int.toNat_natCast]at h2 h3
 have hkl:k<List.length (α:=Int) stack:=by
   show k<List.length (α:=TabT 0) stack;omega
 have hk1:¬ gt 0 stack k=v→1≤k∧inTk stack v k∧scanD stack v (k+1)=scanD stack v k:=fun hq=>scan_step hkl h3 hq
 have hL:∀ a b,(0+List.length (α:=TabT 0) (List.take a (List.drop b stack)))*8≤140737488355328:=fun a b=>by
   have:List.length (α:=TabT 0) (List.take a (List.drop b stack))≤List.length (α:=TabT 0) stack:=by simp;omega
   omega
 repeat' (refine bc_ fun g_=>?_;(conv at g_=>(arg 1;whnf));refine g_ ?_;clear g_;first|(intro bq;cases bq;rotate_left;(focus (intro hbq;exact absurd (hbq rfl) (by omega)));intro _)|((fail_if_success (fail_if_success (apply Or.inl)));refine Or.inl ⟨_,_,_,_,[7],hc_sort _ _,rfl,rfl,rfl,rfl,rfl,(And.intro rfl trivial),?_⟩;(rintro _ _ _ ⟨rfl,rfl,rfl⟩;refine And.intro rfl (And.intro rfl ?_)))|((fail_if_success (apply cH_));(fail_if_success (apply uR_));apply Or.inl)|(apply rn_;exact rm_;exact me_)|(apply mt_;exact me_)|((fail_if_success (fail_if_success (apply Exists.intro)));first|(refine ⟨[1,1,1,0,1,1,1,1,0,0,1,3],[0,1,2,4,5,6,7,3,8,9,10,11],(by decide +kernel),?_⟩;(conv=>whnf);(fail_if_success (apply fa_))))|(apply ob0_;first|(exact hL _ _)|exact obc_|(show(List.length (α:=TabT 12) parts+1)*24≤140737488355328<;>omega)|(exact of_decide_eq_true rfl))|(apply And.intro<;>(intro h;have hc:=h;(try exact nc1_ hc);(try exact nc2_ hc);try simp only [bs]at h))|(intro h;(try (unfold und at h;conv at h=>whnf));try simp only [bs]at h)|(apply wr0_;exact wrc_)|(apply wg0_;exact wgc_))
 all_goals (conv=>whnf)
 ·obtain⟨q1,q2,q3⟩:=hk1 (by assumption)
  have e1:((k:Int)-1).toNat+1=k:=by omega
  refine Rnd.mk ⟨by show 0≤(k:Int)-1;omega,by show(k:Int)-1<(List.length (α:=TabT 0) stack:Nat);omega,?_,?_⟩ (by show((k:Int)-1).toNat<(k:Int).toNat;omega) me_
  ·show _=scanD stack v (((k:Int)-1).toNat+1);rw [e1,h2];exact q3
  ·show inTk stack v (((k:Int)-1).toNat+1);rw [e1];exact q2
 have hsc:scanD stack v (List.length (α:=Int) stack)=k:=h2.trans (scan_hit (by assumption))
 clear hk1;have hPP:=close_eq (index:=index) (low:=low) (part:=part) (parts:=parts) (count:=count) hkl hsc;generalize hP:isort ([]++List.take ((List.length (α:=TabT 0) stack:Int)-k).toNat (List.drop ((k:Int)).toNat stack))=P;have hP2:P=closeP ⟨index,low,stack,part,parts,count⟩ v:=hP.symm.trans hPP;have hPr:=close_rng (N:=(List.length (α:=TabT 0) part:Nat)) hP2 hr;have hPl:List.length (α:=TabT 0) P≤262144:=Nat.le_trans (close_len hP2) hs;refine Or.inr (Or.inr ⟨[],[55],[],[4],[0,53,54],[],?_⟩);conv=>whnf
 refine⟨fun(s:Int×Unit) (t:List (TabT 0)×Unit)=>0≤s.1∧s.1≤(List.length (α:=TabT 0) P:Nat)∧t.1=markS part (List.length (α:=TabT 12) (@HAppend.hAppend (List (TabT 12)) (List (TabT 12)) (List (TabT 12)) _ parts [P]):Nat) P s.1.toNat,fun(s:Int×Unit) _=>((List.length (α:=TabT 0) P:Nat)-s.1).toNat,?_⟩
 conv=>whnf
 refine Ini.mk ⟨by(try dsimp only);omega,by(try dsimp only);omega,rfl⟩ me_ ?_
 rintro⟨(j:Int),_⟩ ⟨(t:List (TabT 0)),_⟩ ⟨g0,g1,gS⟩
 try dsimp only at g0 g1 gS
 obtain⟨j,rfl⟩:=Int.eq_ofNat_of_zero_le g0;rw [Int.toNat_natCast]at gS;subst gS;have hml:List.length (α:=TabT 0) (markS part (List.length (α:=TabT 12) (@HAppend.hAppend (List (TabT 12)) (List (TabT 12)) (List (TabT 12)) _ parts [P]):Nat) P j)=List.length (α:=TabT 0) part:=mark_l _ _ _ j;have hPj:j<List.length (α:=TabT 0) P→0≤gi P j∧gi P j<((List.length (α:=TabT 0) (markS part (List.length (α:=TabT 12) (@HAppend.hAppend (List (TabT 12)) (List (TabT 12)) (List (TabT 12)) _ parts [P]):Nat) P j):Nat):Int):=fun h=>by rw [hml];exact hPr j h
 repeat' (refine bc_ fun g_=>?_;(conv at g_=>(arg 1;whnf));refine g_ ?_;clear g_;first|(intro bq;cases bq;rotate_left;(focus (intro hbq;exact absurd (hbq rfl) (by omega)));intro _)|((fail_if_success (apply cH_));(fail_if_success (apply uR_));apply Or.inl)|(apply rn_;exact rm_;exact me_)|(apply mt_;exact me_)|((fail_if_success (fail_if_success (apply Exists.intro)));first|(refine ⟨[1,1,1,0,1,1,1,1,0,0,1,3],[0,1,2,4,5,6,7,3,8,9,10,11],(by decide +kernel),?_⟩;(conv=>whnf);(fail_if_success (apply fa_))))|(apply ob0_;first|(exact hPj (by omega))|exact obc_|(exact of_decide_eq_true rfl))|(apply And.intro<;>(intro h;have hc:=h;(try exact nc1_ hc);(try exact nc2_ hc);try simp only [bs]at h))|(intro h;(try (unfold und at h;conv at h=>whnf));try simp only [bs]at h)|(apply wr0_;exact wrc_)|(apply wg0_;exact wgc_))
 all_goals (conv=>whnf)
 ·refine⟨by show(0:Int)≤(j:Int)+1;omega,by show(j:Int)+1≤(List.length (α:=TabT 0) P:Nat);omega,?_⟩
  show _=markS part _ P (j+1);rfl
 have ej:j=List.length (α:=TabT 0) P:=by omega
 subst ej;obtain⟨w1,w2,w3⟩:=close_end (index:=index) (low:=low) (part:=part) (parts:=parts) (count:=count) hsc hP2;refine⟨[],[(400000,3,0)],_,_,[10,9],⟨rfl,rfl,rfl⟩,?_⟩
 conv=>whnf
 refine bc_ fun g_=>?_;(conv at g_=>(arg 1;whnf));refine g_ ?_;clear g_;repeat' (first|((with_reducible apply And.intro)<;>(first|(with_reducible refine leS_q ?_;apply rfl)|(with_reducible refine leH_rf ?_;apply rfl)|(refine bc_ fun g_=>?_;(conv at g_=>(arg 1;whnf));refine g_ ?_;clear g_)))|(with_reducible apply trivial)|apply rfl|apply(Or.inl rfl)|apply(Or.inr rfl)|apply(Or.inr (Or.inl rfl))|apply trivial|(apply And.intro<;>(refine bc_ fun g_=>?_;(conv at g_=>(arg 1;whnf));refine g_ ?_;clear g_)))
 all_goals first|(first|exact eqL_of w1|exact w1)|(first|exact eqL_of w2|exact w2)|(first|exact eqL_of w3|exact w3)
end Go.SX
namespace Go.SX
open Go.XK Go.RowKit
def iterF (nx:Rows):Nat→GS→GS
 |0,s=>s
 |k+1,s=>match stepF nx s with
   |none=>s
   |some s'=>iterF nx k s'
theorem iter_none {nx:Rows} {s:GS} (h:stepF nx s=none):∀ k,iterF nx k s=s
 |0=>rfl
 |k+1=>by rw [iterF,h]
section
variable {nx:Rows} {n:Nat} {idx0:List Int} {root R:Int}
theorem iter_stab (hx:NxOk nx n):∀ (m:Nat) {s:GS},GOk nx n idx0 root R s→muF nx s≤m→iterF nx m s=iterF nx (muF nx s) s:=by
 intro m
 induction m using Nat.strongRecOn with
 |_ m ih =>
   intro s h hm
   cases hs:stepF nx s with
   |none=>rw [iter_none hs,iter_none hs]
   |some s' =>
     obtain⟨h1,h2⟩:=step_ok hx h hs;obtain⟨m1,rfl⟩:∃ m1,m=m1+1:=⟨m-1,by omega⟩
     obtain⟨m2,e2⟩:∃ m2,muF nx s=m2+1:=⟨muF nx s-1,by omega⟩
     rw [e2,iterF,iterF,hs];show iterF nx m1 s'=iterF nx m2 s';rw [ih m1 (by omega) h1 (by omega),ih m2 (by omega) h1 (by omega)]
theorem iter_step (hx:NxOk nx n) {s s':GS} (h:GOk nx n idx0 root R s) (hs:stepF nx s=some s'):iterF nx (muF nx s) s=iterF nx (muF nx s') s':=by
 obtain⟨h1,h2⟩:=step_ok hx h hs;obtain⟨m2,e2⟩:∃ m2,muF nx s=m2+1:=⟨muF nx s-1,by omega⟩
 rw [e2,iterF,hs];exact iter_stab hx m2 h1 (by omega)
end
def startF (f:FS) (root:Int):GS:=⟨[⟨root,0⟩],enterS f root⟩
def findS (nx:Rows) (f:FS) (root:Int):FS:=(iterF nx (muF nx (startF f root)) (startF f root)).f
abbrev TF:=List (TabT 44)×((List (TabT 12)×Unit×Unit×Unit×Unit×Unit×Unit)×(List (TabT 0)×(List (TabT 0)×(List (TabT 0)×(List (TabT 0)×(List (TabT 12)×((Int×Unit)×Unit)))))))
def gsOf (t:TF):GS:=⟨t.1,⟨t.2.2.1,t.2.2.2.1,t.2.2.2.2.1,t.2.2.2.2.2.1,t.2.2.2.2.2.2.1,t.2.2.2.2.2.2.2.1.1⟩⟩
theorem rnd_ok {nx:Rows} {n:Nat} {idx0:List Int} {root R:Int} (hx:NxOk nx n) {FIN s s':GS} (h:GOk nx n idx0 root R s) (hF:FIN=iterF nx (muF nx s) s) (hs:stepF nx s=some s'):GOk nx n idx0 root R s'∧FIN=iterF nx (muF nx s') s'∧muF nx s'<muF nx s :=
 ⟨(step_ok hx h hs).1,hF.trans (iter_step hx h hs),(step_ok hx h hs).2⟩
theorem inc_top {cs:List TGraphCall} (h:0<cs.length):(incC cs).getD ((cs.length:Int)-1).toNat ⟨0,0⟩=⟨(topC cs).v,(topC cs).i+1⟩:=by
 have e:((cs.length:Int)-1).toNat=cs.length-1:=by omega
 rw [e,inc_split h,List.getD_eq_getElem?_getD,List.getElem?_append_right (by simp),List.length_take,show cs.length-1-min (cs.length-1) cs.length=0 by omega]
 rfl
theorem inc_topv {cs:List TGraphCall} (h:0<cs.length):((incC cs).getD ((cs.length:Int)-1).toNat ⟨0,0⟩).v=(topC cs).v:=by rw [inc_top h]
theorem up_top {cs:List TGraphCall} (h:1<cs.length):cs.getD (0+((cs.length:Int)-1-0-1)).toNat ⟨0,0⟩=topC (cs.take (cs.length-1)):=by
 unfold topC;rw [List.length_take,show((min (cs.length-1) cs.length:Nat):Int)-1=(cs.length:Int)-2 by omega,show(0+((cs.length:Int)-1-0-1)).toNat=cs.length-2 by omega,show((cs.length:Int)-2).toNat=cs.length-2 by omega]
 rw [List.getD_eq_getElem?_getD,List.getD_eq_getElem?_getD,List.getElem?_take_of_lt (by omega)]
theorem up_topv {cs:List TGraphCall} (h:1<cs.length):(cs.getD (0+((cs.length:Int)-1-0-1)).toNat ⟨0,0⟩).v=(topC (cs.take (cs.length-1))).v:=by rw [up_top h]
section
variable {nx:Rows} {calls cs:List TGraphCall} {f:FS} {w v up:Int}
theorem step_enter (hc:0<calls.length) (hi:(topC calls).i<(rowA nx (topC calls).v.toNat).length) (h0:gi f.index (gi (rowA nx (topC calls).v.toNat) (topC calls).i)=0) :
   stepF nx ⟨calls,f⟩=some ⟨incC calls++[⟨gi (rowA nx (topC calls).v.toNat) (topC calls).i,0⟩],enterS f (gi (rowA nx (topC calls).v.toNat) (topC calls).i)⟩:=by
 unfold stepF;rw [if_pos hc,if_pos hi,if_pos h0]
theorem step_low (hc:0<calls.length) (hi:(topC calls).i<(rowA nx (topC calls).v.toNat).length) (h0:¬ gi f.index (gi (rowA nx (topC calls).v.toNat) (topC calls).i)=0) (h1:gi f.part (gi (rowA nx (topC calls).v.toNat) (topC calls).i)=0) (hv:v=(topC calls).v) :
   stepF nx ⟨calls,f⟩=some ⟨incC calls,lowS f v (gi f.index (gi (rowA nx (topC calls).v.toNat) (topC calls).i))⟩:=by
 subst hv;unfold stepF;rw [if_pos hc,if_pos hi,if_neg h0,if_pos h1]
theorem step_skip (hc:0<calls.length) (hi:(topC calls).i<(rowA nx (topC calls).v.toNat).length) (h0:¬ gi f.index (gi (rowA nx (topC calls).v.toNat) (topC calls).i)=0) (h1:¬ gi f.part (gi (rowA nx (topC calls).v.toNat) (topC calls).i)=0) :
   stepF nx ⟨calls,f⟩=some ⟨incC calls,f⟩:=by
 unfold stepF;rw [if_pos hc,if_pos hi,if_neg h0,if_neg h1]
theorem step_pop (hc:0<calls.length) (hi:¬ (topC calls).i<(rowA nx (topC calls).v.toNat).length):stepF nx ⟨calls,f⟩=some ⟨calls.take (calls.length-1),popS (calls.take (calls.length-1)) f (topC calls).v⟩:=by
 unfold stepF;rw [if_pos hc,if_neg hi]
theorem step_pop1 (hc:1<calls.length) (hi:¬ (topC calls).i<(rowA nx (topC calls).v.toNat).length) (hcs:cs=calls.take (calls.length-1)) (hup:up=(topC (calls.take (calls.length-1))).v) (h:gi (lowS f up (gi f.low (topC calls).v)).low (topC calls).v=gi f.index (topC calls).v) :
   stepF nx ⟨calls,f⟩=some ⟨cs,closeS (lowS f up (gi f.low (topC calls).v)) (topC calls).v⟩:=by
 subst hcs hup;rw [step_pop (by omega) hi]
 have e:gpopF (calls.take (calls.length-1)) f (topC calls).v=lowS f (topC (calls.take (calls.length-1))).v (gi f.low (topC calls).v):=if_pos (by rw [List.length_take];omega)
 unfold popS;rw [e,if_pos (show gi (lowS f (topC (calls.take (calls.length-1))).v (gi f.low (topC calls).v)).low (topC calls).v=gi (lowS f (topC (calls.take (calls.length-1))).v (gi f.low (topC calls).v)).index (topC calls).v from h)]
theorem step_pop2 (hc:1<calls.length) (hi:¬ (topC calls).i<(rowA nx (topC calls).v.toNat).length) (hcs:cs=calls.take (calls.length-1)) (hup:up=(topC (calls.take (calls.length-1))).v) (h:¬ gi (lowS f up (gi f.low (topC calls).v)).low (topC calls).v=gi f.index (topC calls).v) :
   stepF nx ⟨calls,f⟩=some ⟨cs,lowS f up (gi f.low (topC calls).v)⟩:=by
 subst hcs hup;rw [step_pop (by omega) hi]
 have e:gpopF (calls.take (calls.length-1)) f (topC calls).v=lowS f (topC (calls.take (calls.length-1))).v (gi f.low (topC calls).v):=if_pos (by rw [List.length_take];omega)
 unfold popS;rw [e,if_neg (show ¬ gi (lowS f (topC (calls.take (calls.length-1))).v (gi f.low (topC calls).v)).low (topC calls).v=gi (lowS f (topC (calls.take (calls.length-1))).v (gi f.low (topC calls).v)).index (topC calls).v from h)]
theorem step_pop3 (hc:0<calls.length) (h1:¬ 1<calls.length) (hi:¬ (topC calls).i<(rowA nx (topC calls).v.toNat).length) (hcs:cs=calls.take (calls.length-1)) (h:gi f.low (topC calls).v=gi f.index (topC calls).v) :
   stepF nx ⟨calls,f⟩=some ⟨cs,closeS f (topC calls).v⟩:=by
 subst hcs;rw [step_pop hc hi];have e:gpopF (calls.take (calls.length-1)) f (topC calls).v=f:=if_neg (by rw [List.length_take];omega)
 unfold popS;rw [e,if_pos h]
theorem step_pop4 (hc:0<calls.length) (h1:¬ 1<calls.length) (hi:¬ (topC calls).i<(rowA nx (topC calls).v.toNat).length) (hcs:cs=calls.take (calls.length-1)) (h:¬ gi f.low (topC calls).v=gi f.index (topC calls).v) :
   stepF nx ⟨calls,f⟩=some ⟨cs,f⟩:=by
 subst hcs;rw [step_pop hc hi];have e:gpopF (calls.take (calls.length-1)) f (topC calls).v=f:=if_neg (by rw [List.length_take];omega)
 unfold popS;rw [e,if_neg h]
theorem take_last (calls:List TGraphCall):List.take (((calls.length:Int)-1).toNat-(0:Int).toNat) (List.drop (0:Int).toNat calls)=calls.take (calls.length-1):=by
 have e:((calls.length:Int)-1).toNat-(0:Int).toNat=calls.length-1:=by
   rw [show(0:Int).toNat=0 from rfl];omega
 rw [e];rfl
end
theorem rnd_ok' {nx:Rows} {n:Nat} {idx0:List Int} {root R:Int} (hx:NxOk nx n) {FIN s:GS} (h:GOk nx n idx0 root R s) (hF:FIN=iterF nx (muF nx s) s) (s':GS) (hs:stepF nx s=some s'):GOk nx n idx0 root R s'∧FIN=iterF nx (muF nx s') s'∧muF nx s'<muF nx s:=rnd_ok hx h hF hs
theorem find_end {nx:Rows} {n:Nat} {idx0:List Int} {root R:Int} {FIN s:GS} (hF:FIN=iterF nx (muF nx s) s) (hc:¬ 0<s.calls.length):FIN=s:=by
 rw [hF];refine iter_none ?_ _;unfold stepF;rw [if_neg hc]
structure GSafe (nx:Rows) (n:Nat) (calls:List TGraphCall) (f:FS):Prop where
 nl:nx.length=n
 v:0<calls.length→0≤(topC calls).v∧(topC calls).v<n
 i:0<calls.length→0≤(topC calls).i∧(topC calls).i≤(rowA nx (topC calls).v.toNat).length
 u:1<calls.length→0≤(topC (calls.take (calls.length-1))).v∧(topC (calls.take (calls.length-1))).v<n
 w:0<calls.length→(topC calls).i<(rowA nx (topC calls).v.toNat).length→0≤gi (rowA nx (topC calls).v.toNat) (topC calls).i∧gi (rowA nx (topC calls).v.toNat) (topC calls).i<n
 li:f.index.length=n
 ll:f.low.length=n
 lp:f.part.length=n
 cl:calls.length≤n
 sl:f.stack.length≤n
 pl:f.parts.length≤n
 c0:0≤f.count∧f.count≤n
theorem gsafe {nx:Rows} {n:Nat} {idx0:List Int} {root R:Int} (hx:NxOk nx n) {s:GS} (h:GOk nx n idx0 root R s):GSafe nx n s.calls s.f:=by
 have hv:=vis_le s.f.index;rw [h.li]at hv;have hcl:=h.cl;have hstk:=h.stk;have hcnt:=h.cnt;refine⟨hx.len,fun hc=>⟨(h.cv _ (top_mem h hc)).1,(h.cv _ (top_mem h hc)).2.1⟩,fun hc=>(h.cv _ (top_mem h hc)).2.2,fun hc=>?_,fun hc hi=>hx.row _ _ (gi_mem (by have:=(h.cv _ (top_mem h hc)).2.2;omega)),h.li,h.ll,h.lp,by omega,by omega,by omega,by omega⟩
 have hq:0<(s.calls.take (s.calls.length-1)).length:=by simp;omega
 have e:=top_split hq;have hm:topC (s.calls.take (s.calls.length-1))∈s.calls:=List.mem_of_mem_take (by rw [e];exact List.mem_append_right _ (by rw [← e];exact List.mem_singleton.2 rfl))
 exact⟨(h.cv _ hm).1,(h.cv _ hm).2.1⟩
set_option maxHeartbeats 4000000 in
theorem hc_enter {zn z1 z2 z3 z4 z5:Option Bool} {nx parts:List (TabT 12)} {index low stack part:List (TabT 0)} {count v:Int} (hc:0≤count∧count≤262144) (hi:0≤v∧v<(List.length (α:=TabT 0) index:Nat)) (hl:0≤v∧v<(List.length (α:=TabT 0) low:Nat)) (hs:List.length (α:=TabT 0) stack≤262144):HC E0 152 9 [.i v,.loc 0 0,.loc 1 0] [(0,.row 190 [.loc 2 0]),(1,.row 214 [.loc 3 0]),(2,.row 3 [.i count]),(3,.row 198 [.lst zn 12 nx,.osl 4,.osl 5,.osl 6,.osl 7,.osl 8]),(4,.arr 3 z1 0 index),(5,.arr 3 z2 0 low),(6,.arr 3 z3 0 stack),(7,.arr 3 z4 0 part),(8,.arr 25 z5 12 parts)] (fun s H n=>s=.agg [.i v,.i 0]∧H=[(0,.row 190 [.loc 2 0]),(1,.row 214 [.loc 3 0]),(2,.row 3 [.i (count+1)]),(3,.row 198 [.lst zn 12 nx,.osl 4,.osl 5,.osl 9,.osl 7,.osl 8]),(4,.arr 3 none 0 (enterS ⟨index,low,stack,part,parts,count⟩ v).index),(5,.arr 3 none 0 (enterS ⟨index,low,stack,part,parts,count⟩ v).low),(9,.arr 3 none 0 (enterS ⟨index,low,stack,part,parts,count⟩ v).stack),(7,.arr 3 z4 0 part),(8,.arr 25 z5 12 parts)]∧n=10):=by
 refine calls_hc (DB:=[]) (IL:=[]) (WL:=[]) (fn:=Proofs.Tryz.f152) rfl rfl rfl rfl (by unfold FnOK;kernel_rfl) (fun hk=>?_)
 simp only [know]at hk;have hq:(List.length (α:=TabT 0) stack+1)*8≤140737488355328:=by omega
 repeat' (refine bc_ fun g_=>?_;(conv at g_=>(arg 1;whnf));refine g_ ?_;clear g_;first|(intro bq;cases bq;rotate_left;(focus (intro hbq;exact absurd (hbq rfl) (by omega)));intro _)|((fail_if_success (fail_if_success (apply Or.inl)));first|refine Or.inr (Or.inl (Exists.intro [0,0,1,1,0,1,2,3,1,1,3] (Exists.intro (.take 5 (.take 1 (.take 2 (.take 3 (.take 4 (.two 0 (.one 6 (.one 7 (.take 8 (.take 9 (.one 10 .done))))) 6 (.two 0 (.one 7 (.take 8 (.take 9 (.one 10 .done)))) 7 (.take 0 (.take 8 (.take 9 (.one 10 .done))))))))))) (vcP_len (n:=11) rfl (And.intro (by decide +kernel) ?_))))))|((fail_if_success (apply cH_));(fail_if_success (apply uR_));apply Or.inl)|(apply rn_;exact rm_;exact me_)|(apply mt_;exact me_)|((fail_if_success (fail_if_success (apply Exists.intro)));first|(refine ⟨[0,1,1,0,1,0,1,1,0,1,0,1,0,0,1,0,1,3,1,3],[4,9,0,1,2,3,5,6,7,8,10,11,12,13,14,15,16,17,18,19],(okX_len (n:=20) rfl (by decide +kernel)),?_⟩;(conv=>whnf);(fail_if_success (apply fa_))))|(apply ob0_;first|(exact hi)|(exact hl)|(exact hq)|exact obc_|(exact of_decide_eq_true rfl))|((fail_if_success (fail_if_success (apply And.intro)));first|(apply And.intro<;>(intro h;have hc:=h;(try exact nc1_ hc);(try exact nc2_ hc);try simp only [bs]at h))|refine And.intro (by kernel_rfl) ?_|(refine And.intro ?_ ?_;fail_if_success (refine Ob.mk ?_)))|(intro h;(try (unfold und at h;conv at h=>whnf));try simp only [bs]at h)|(apply wr0_;exact wrc_)|(apply wg0_;exact wgc_))
 all_goals (conv=>whnf)
 all_goals (refine⟨[],[],_,_,[11],⟨rfl,rfl,rfl⟩,?_⟩;conv=>whnf)
 all_goals exact me_
end Go.SX
namespace Go.SX
open Go.XK Go.RowKit
def hdR (l:Rows) (i:Nat):Int:=gi (rowA l i) 0
def swapR (l:Rows) (i j:Nat):Rows:=(l.set i (rowA l j)).set j (rowA l i)
def upR:Nat→Rows→Nat→Rows
 |0,l,_=>l
 |k+1,l,j=>if(j-1) / 2=j then l else if hdR l j<hdR l ((j-1) / 2)then upR k (swapR l ((j-1) / 2) j) ((j-1) / 2)else l
def upS (l:Rows) (j:Nat):Rows:=upR (j+1) l j
def kidR (n:Nat) (l:Rows) (i:Nat):Nat:=if 2*i+2<n then if hdR l (2*i+2)<hdR l (2*i+1)then 2*i+2 else 2*i+1 else 2*i+1
def downR (n:Nat):Nat→Rows→Nat→Rows×Nat
 |0,l,i=>(l,i)
 |k+1,l,i=>if n≤2*i+1 then(l,i)else if hdR l (kidR n l i)<hdR l i then downR n k (swapR l i (kidR n l i)) (kidR n l i)else(l,i)
def downS (n:Nat) (l:Rows) (i:Nat):Rows×Nat:=downR n (n-i) l i
def pushH (l:Rows) (x:List Int):Rows:=upS (l++[x]) l.length
def popH (l:Rows):Rows:=(downS (l.length-1) (swapR l 0 (l.length-1)) 0).1
theorem par_eq (k:Nat):((k:Int)-1).tdiv 2=((k-1) / 2:Nat):=by
 cases k with
 |zero=>rfl
 |succ k =>
   rw [show((k+1:Nat):Int)-1=(k:Int)by omega,Nat.add_sub_cancel]
   rfl
def NE (l:Rows):Prop:=∀ i,i<l.length→0<(rowA l i).length
theorem swap_len (l:Rows) (i j:Nat):(swapR l i j).length=l.length:=by simp [swapR]
theorem swap_lt {l:Rows} {i j:Nat} {a:Int} (h:a<l.length):a<(swapR l i j).length:=by rw [swap_len];exact h
theorem rowA_mem {l:Rows} {i:Nat} (h:i<l.length):rowA l i∈l:=by
 unfold rowA;rw [List.getD_eq_getElem?_getD,List.getElem?_eq_getElem h];exact List.getElem_mem h
theorem mem_rowA {l:Rows} {r:List Int} (h:r∈l):∃ i,i<l.length∧rowA l i=r:=by
 obtain⟨i,hi,e⟩:=List.getElem_of_mem h;refine⟨i,hi,?_⟩;unfold rowA;rw [List.getD_eq_getElem?_getD,List.getElem?_eq_getElem hi];exact e
theorem swap_mem {l:Rows} {i j:Nat} (hi:i<l.length) (hj:j<l.length):∀ r∈swapR l i j,r∈l:=by
 intro r hr;unfold swapR at hr;rcases List.mem_or_eq_of_mem_set hr with hr|rfl
 ·rcases List.mem_or_eq_of_mem_set hr with hr|rfl
  ·exact hr
  ·exact rowA_mem hj
 ·exact rowA_mem hi
theorem NE_iff {l:Rows}:NE l↔∀ r∈l,r≠[]:=by
 refine⟨fun h r hr e=>?_,fun h i hi=>List.length_pos_iff.2 (h _ (rowA_mem hi))⟩
 obtain⟨i,hi,rfl⟩:=mem_rowA hr;have:=h i hi;rw [e]at this;cases this
theorem NE_swap {l:Rows} {i j:Nat} (h:NE l) (hi:i<l.length) (hj:j<l.length):NE (swapR l i j):=NE_iff.2 fun r hr=>NE_iff.1 h r (swap_mem hi hj r hr)
theorem upR_stab:∀ (k:Nat) (l:Rows) (j:Nat),j+1≤k→upR k l j=upS l j:=by
 intro k
 induction k using Nat.strongRecOn with
 |_ k ih =>
   intro l j hk;obtain⟨k,rfl⟩:∃ k',k=k'+1:=⟨k-1,by omega⟩
   show upR (k+1) l j=upR (j+1) l j;rw [upR,upR];split
   ·rfl
   ·rename_i hp;split
    ·rw [ih k (by omega) _ _ (by omega)]
     by_cases hk2:j<k+1
     ·by_cases e:j=k
      ·subst e;rw [ih j (by omega) _ _ (by omega)]
      ·rw [ih j (by omega) _ _ (by omega)]
     ·omega
    ·rfl
theorem upS_top {l:Rows} {j:Nat} (h:(j-1) / 2=j):upS l j=l:=by
 unfold upS;rw [upR,if_pos h]
theorem upS_go {l:Rows} {j:Nat} (h:¬ (j-1) / 2=j) (h2:hdR l j<hdR l ((j-1) / 2)):upS l j=upS (swapR l ((j-1) / 2) j) ((j-1) / 2):=by
 conv=>lhs;unfold upS
 rw [upR,if_neg h,if_pos h2,upR_stab _ _ _ (by omega)]
theorem upS_stop {l:Rows} {j:Nat} (h2:¬ hdR l j<hdR l ((j-1) / 2)):upS l j=l:=by
 unfold upS;rw [upR];split
 ·rfl
 ·first|rfl|rw [if_neg h2]
theorem up_keep:∀ (k:Nat) (l:Rows) (j:Nat),j<l.length→(upR k l j).length=l.length∧∀ r∈upR k l j,r∈l
 |0,_,_,_=>⟨rfl,fun _ h=>h⟩
 |k+1,l,j,hj=>by
   rw [upR];split
   ·exact⟨rfl,fun _ h=>h⟩
   ·split
    ·obtain⟨h1,h2⟩:=up_keep k (swapR l ((j-1) / 2) j) ((j-1) / 2) (by rw [swap_len];omega)
     exact⟨h1.trans (swap_len ..),fun r hr=>swap_mem (by omega) hj r (h2 r hr)⟩
    ·exact⟨rfl,fun _ h=>h⟩
theorem kid_lt {n i:Nat} {l:Rows} (h:¬ n≤2*i+1):i<kidR n l i∧kidR n l i<n:=by
 unfold kidR;split
 ·split<;>omega
 ·omega
theorem downR_stab (n:Nat):∀ (k:Nat) (l:Rows) (i:Nat),n-i≤k→downR n k l i=downS n l i:=by
 intro k
 induction k using Nat.strongRecOn with
 |_ k ih =>
   intro l i hk;unfold downS
   by_cases hn:n≤2*i+1
   ·cases k with
    |zero =>
      have e:n-i=0:=by omega
      rw [e]
    |succ k =>
      rw [downR,if_pos hn]
      cases hm:n-i with
      |zero=>rfl
      |succ m=>rw [downR,if_pos hn]
   ·have hk1:=kid_lt (l:=l) hn;obtain⟨k,rfl⟩:∃ k',k=k'+1:=⟨k-1,by omega⟩
    obtain⟨m,hm⟩:∃ m,n-i=m+1:=⟨n-i-1,by omega⟩
    rw [hm,downR,downR,if_neg hn,if_neg hn];split
    ·rw [ih k (by omega) _ _ (by omega)]
     by_cases e:m<k+1
     ·rw [ih m e _ _ (by omega)]
     ·omega
    ·rfl
theorem downS_end {n i:Nat} {l:Rows} (h:n≤2*i+1):downS n l i=(l,i):=by
 unfold downS
 cases n-i with
 |zero=>rfl
 |succ m=>rw [downR,if_pos h]
theorem downS_stop {n i:Nat} {l:Rows} (h:¬ hdR l (kidR n l i)<hdR l i):downS n l i=(l,i):=by
 unfold downS
 cases n-i with
 |zero=>rfl
 |succ m =>
   rw [downR];split
   ·rfl
   ·first|rfl|rw [if_neg h]
theorem downS_go {n i:Nat} {l:Rows} (h:¬ n≤2*i+1) (h2:hdR l (kidR n l i)<hdR l i):downS n l i=downS n (swapR l i (kidR n l i)) (kidR n l i):=by
 have hk1:=kid_lt (l:=l) h
 conv=>lhs;unfold downS
 obtain⟨m,hm⟩:∃ m,n-i=m+1:=⟨n-i-1,by omega⟩
 rw [hm,downR,if_neg h,if_pos h2,downR_stab n m _ _ (by omega)]
theorem down_keep (n:Nat):∀ (k:Nat) (l:Rows) (i:Nat),n≤l.length→i<l.length→(downR n k l i).1.length=l.length∧∀ r∈(downR n k l i).1,r∈l
 |0,_,_,_,_=>⟨rfl,fun _ h=>h⟩
 |k+1,l,i,hn,hi=>by
   rw [downR];split
   ·exact⟨rfl,fun _ h=>h⟩
   ·rename_i h;have hk1:=kid_lt (l:=l) h;split
    ·obtain⟨h1,h2⟩:=down_keep n k (swapR l i (kidR n l i)) (kidR n l i) (by rw [swap_len];exact hn) (by rw [swap_len];omega)
     exact⟨h1.trans (swap_len ..),fun r hr=>swap_mem hi (by omega) r (h2 r hr)⟩
    ·exact⟨rfl,fun _ h=>h⟩
theorem push_keep (l:Rows) (x:List Int):(pushH l x).length=l.length+1∧∀ r∈pushH l x,r∈l∨r=x:=by
 obtain⟨h1,h2⟩:=up_keep (l.length+1) (l++[x]) l.length (by simp)
 refine⟨by rw [pushH,upS,h1];simp,fun r hr=>?_⟩
 rcases List.mem_append.1 (h2 r hr)with h|h
 ·exact .inl h
 ·exact .inr (List.mem_singleton.1 h)
theorem pop_keep {l:Rows} (h:0<l.length):(popH l).length=l.length∧∀ r∈popH l,r∈l:=by
 obtain⟨h1,h2⟩:=down_keep (l.length-1) (l.length-1-0) (swapR l 0 (l.length-1)) 0 (by rw [swap_len];omega) (by rw [swap_len];exact h)
 exact⟨h1.trans (swap_len ..),fun r hr=>swap_mem h (by omega) r (h2 r hr)⟩
end Go.SX
namespace Go.SX
open Go.XK Go.RowKit
noncomputable def I_BW:Inl E0:=Inl.of 177 Proofs.Tryz.f177 rfl rfl (by unfold FnOK;kernel_rfl)
noncomputable def I_BX:Inl E0:=Inl.of 178 Proofs.Tryz.f178 rfl rfl (by unfold FnOK;kernel_rfl)
noncomputable def I_BY:Inl E0:=Inl.of 181 Proofs.Tryz.f181 rfl rfl (by unfold FnOK;kernel_rfl)
set_option maxHeartbeats 4000000 in
theorem hc_hup {z:Option Bool} {l:List (TabT 12)} {j:Nat} {J:Int} (ej:J=(j:Nat)) (hj:j<List.length (α:=TabT 12) l) (hb:List.length (α:=TabT 12) l≤262144) (hR:NE l):HC E0 154 2 [.ifc 200 (.loc 0 0),.i J] [(0,.row 201 [.osl 1]),(1,.arr 25 z 12 l)] (fun s H n=>s=.tup []∧H=[(0,.row 201 [.osl 1]),(1,.arr 25 none 12 (upS l j))]∧n=2):=by
 subst ej;refine calls_hc (DB:=[]) (IL:=[I_BX,I_BY]) (WL:=[]) (fn:=Proofs.Tryz.f154) rfl rfl rfl rfl (by unfold FnOK;kernel_rfl) (fun hk=>?_)
 simp only [know]at hk;refine Or.inr (Or.inr ⟨[],[1,12,13,14,15,16],[],[1],[0],[],?_⟩);conv=>whnf
 generalize hFN:upS l j=FIN;refine⟨fun(s:Int×Unit) (t:List (TabT 12)×Unit)=>0≤s.1∧s.1<(List.length (α:=TabT 12) t.1:Nat)∧List.length (α:=TabT 12) t.1=List.length (α:=TabT 12) l∧NE t.1∧FIN=upS t.1 s.1.toNat,fun(s:Int×Unit) _=>s.1.toNat,?_⟩
 conv=>whnf
 refine Ini.mk ⟨by(try dsimp only);omega,by(try dsimp only);omega,rfl,hR,hFN.symm⟩ me_ ?_
 rintro⟨(k:Int),_⟩ ⟨(t:List (TabT 12)),_⟩ ⟨h0,h1,h2,h3,h4⟩
 try dsimp only at h0 h1 h2 h3 h4
 obtain⟨k,rfl⟩:=Int.eq_ofNat_of_zero_le h0;rw [Int.toNat_natCast]at h4;have hkl:k<List.length (α:=TabT 12) t:=by omega
 have hp:((k:Int)-1).tdiv 2=((k-1) / 2:Nat):=par_eq k;have hq:0≤((k:Int)-1).tdiv 2∧((k:Int)-1).tdiv 2<(List.length (α:=TabT 12) t:Nat):=by rw [hp];omega
 have oS:∀ (q:Nat) (x:TabT 12),0≤(k:Int)∧(k:Int)<(List.length (α:=TabT 12) (List.set (α:=TabT 12) t q x):Nat):=fun q x=>⟨h0,by rw [@List.length_set (TabT 12) t q x];exact h1⟩
 have oA:(0:Int)≤0∧(0:Int)<(List.length (α:=Int) (rowA t ((k:Int)).toNat):Nat):=⟨Int.le_refl _,by have:=h3 ((k:Int)).toNat (by show _<List.length (α:=TabT 12) t;omega);omega⟩
 have oB:(0:Int)≤0∧(0:Int)<(List.length (α:=Int) (rowA t (((k:Int)-1).tdiv 2).toNat):Nat):=⟨Int.le_refl _,by have:=h3 (((k:Int)-1).tdiv 2).toNat (by show _<List.length (α:=TabT 12) t;omega);omega⟩
 repeat' (refine bc_ fun g_=>?_;(conv at g_=>(arg 1;whnf));refine g_ ?_;clear g_;first|(intro bq;cases bq;rotate_left;(focus (intro hbq;exact absurd (hbq rfl) (by omega)));intro _)|((fail_if_success (apply cH_));(fail_if_success (apply uR_));apply Or.inl)|(apply rn_;exact rm_;exact me_)|(apply mt_;exact me_)|((fail_if_success (fail_if_success (apply Exists.intro)));first|(refine ⟨[1,1,1,0,1,0,1,1,1,0,1,0,1,1],[0,1,2,6,7,8,3,4,5,9,10,11,12,13],(okX_len (n:=14) rfl (by decide +kernel)),?_⟩;(conv=>whnf);(fail_if_success (apply fa_)))|(refine ⟨[1,1,1,1,1,1,1,0,1,1,1,0,1,3,1,3],[0,1,2,3,4,5,6,8,9,10,7,11,12,13,14,15],(okX_len (n:=16) rfl (by decide +kernel)),?_⟩;(conv=>whnf);(fail_if_success (apply fa_))))|(apply ob0_;first|(exact oA)|(exact oB)|(exact hq)|(exact oS _ _)|exact obc_|(exact of_decide_eq_true rfl))|(apply And.intro<;>(intro h;have hc:=h;(try exact nc1_ hc);(try exact nc2_ hc);try simp only [bs]at h))|(intro h;(try (unfold und at h;conv at h=>whnf));try simp only [bs]at h)|(apply wr0_;exact wrc_)|(apply wg0_;exact wgc_))
 all_goals (conv=>whnf)
 ·have e:=upS_top (l:=t) (j:=k) (by omega)
  rw [h4,e];refine⟨[],[],_,_,[],⟨rfl,rfl,rfl⟩,?_⟩
  conv=>whnf
  exact me_
 ·have e:=upS_stop (l:=t) (j:=k) (by rw [hp]at h;exact h)
  rw [h4,e];refine⟨[],[],_,_,[],⟨rfl,rfl,rfl⟩,?_⟩
  conv=>whnf
  exact me_
 ·have e:=upS_go (l:=t) (j:=k) (by omega) (by rw [hp]at h;exact h)
  have e2:swapR t ((k-1) / 2) k=swapR t (((k:Int)-1).tdiv 2).toNat k:=by rw [hp];rfl
  refine⟨hq.1,?_,(swap_len t (((k:Int)-1).tdiv 2).toNat k).trans h2,NE_swap h3 (by show _<List.length (α:=TabT 12) t;omega) hkl,?_⟩
  ·exact swap_lt hq.2
  ·show _=upS (swapR t (((k:Int)-1).tdiv 2).toNat k) (((k:Int)-1).tdiv 2).toNat;rw [h4,e,e2,hp];rfl
set_option maxHeartbeats 4000000 in
theorem hc_hdown {z:Option Bool} {l:List (TabT 12)} {i m:Nat} {I M:Int} (ei:I=(i:Nat)) (em:M=(m:Nat)) (hi:i<List.length (α:=TabT 12) l) (hb:List.length (α:=TabT 12) l≤262144) (hn:m≤List.length (α:=TabT 12) l) (hR:NE l):HC E0 155 2 [.ifc 200 (.loc 0 0),.i I,.i M] [(0,.row 201 [.osl 1]),(1,.arr 25 z 12 l)] (fun s H n=>s=.b (decide (I<((downS m l i).2:Nat)))∧H=[(0,.row 201 [.osl 1]),(1,.arr 25 none 12 (downS m l i).1)]∧n=2):=by
 subst ei;subst em;refine calls_hc (DB:=[]) (IL:=[I_BX,I_BY]) (WL:=[]) (fn:=Proofs.Tryz.f155) rfl rfl rfl rfl (by unfold FnOK;kernel_rfl) (fun hk=>?_)
 simp only [know]at hk
 repeat' (refine bc_ fun g_=>?_;(conv at g_=>(arg 1;whnf));refine g_ ?_;clear g_;first|(intro bq;cases bq;rotate_left;(focus (intro hbq;exact absurd (hbq rfl) (by omega)));intro _)|((fail_if_success (apply cH_));(fail_if_success (apply uR_));apply Or.inl)|(apply rn_;exact rm_;exact me_)|(apply mt_;exact me_)|((fail_if_success (fail_if_success (apply Exists.intro)));first|(refine ⟨[1,1,1,0,1,0,1,1,1,0,1,0,1,1],[0,1,2,6,7,8,3,4,5,9,10,11,12,13],(okX_len (n:=14) rfl (by decide +kernel)),?_⟩;(conv=>whnf);(fail_if_success (apply fa_)))|(refine ⟨[1,1,1,1,1,1,1,0,1,1,1,0,1,3,1,3],[0,1,2,3,4,5,6,8,9,10,7,11,12,13,14,15],(okX_len (n:=16) rfl (by decide +kernel)),?_⟩;(conv=>whnf);(fail_if_success (apply fa_))))|(apply ob0_;first|(exact oA _ (by omega))|(exact oS1 _ _ (by omega))|(exact oS2 _ _ (by omega))|exact obc_|(exact of_decide_eq_true rfl))|(apply And.intro<;>(intro h;have hc:=h;(try exact nc1_ hc);(try exact nc2_ hc);try simp only [bs]at h))|(intro h;(try (unfold und at h;conv at h=>whnf));try simp only [bs]at h)|(apply wr0_;exact wrc_)|(apply wg0_;exact wgc_))
 all_goals (conv=>whnf)
 refine Or.inr (Or.inr ⟨[],[7,19,20,29,30,31,32],[],[1],[0,1,2],[],?_⟩);conv=>whnf
 generalize hFN:downS m l i=FIN;refine⟨fun(s:Int×Unit) (t:List (TabT 12)×Unit)=>0≤s.1∧s.1<(List.length (α:=TabT 12) t.1:Nat)∧List.length (α:=TabT 12) t.1=List.length (α:=TabT 12) l∧NE t.1∧FIN=downS m t.1 s.1.toNat,fun(s:Int×Unit) _=>(m-s.1).toNat,?_⟩
 conv=>whnf
 refine Ini.mk ⟨by(try dsimp only);omega,by(try dsimp only);omega,rfl,hR,hFN.symm⟩ me_ ?_
 rintro⟨(k:Int),_⟩ ⟨(t:List (TabT 12)),_⟩ ⟨h0,h1,h2,h3,h4⟩
 try dsimp only at h0 h1 h2 h3 h4
 obtain⟨k,rfl⟩:=Int.eq_ofNat_of_zero_le h0;rw [Int.toNat_natCast]at h4;have hkl:k<List.length (α:=TabT 12) t:=by omega
 have oS1:∀ (q:Nat) (x:TabT 12),2*(k:Int)+1<(List.length (α:=TabT 12) t:Nat)→0≤2*(k:Int)+1∧2*(k:Int)+1<(List.length (α:=TabT 12) (List.set (α:=TabT 12) t q x):Nat):=fun q x hb=>⟨by omega,by rw [@List.length_set (TabT 12) t q x];exact hb⟩
 have oS2:∀ (q:Nat) (x:TabT 12),2*(k:Int)+1+1<(List.length (α:=TabT 12) t:Nat)→0≤2*(k:Int)+1+1∧2*(k:Int)+1+1<(List.length (α:=TabT 12) (List.set (α:=TabT 12) t q x):Nat):=fun q x hb=>⟨by omega,by rw [@List.length_set (TabT 12) t q x];exact hb⟩
 have oA:∀ a:Int,a<(List.length (α:=TabT 12) t:Nat)→(0:Int)≤0∧(0:Int)<(List.length (α:=Int) (rowA t a.toNat):Nat):=fun a ha=>⟨Int.le_refl _,by have:=h3 a.toNat (by show _<List.length (α:=TabT 12) t;omega);omega⟩
 repeat' (refine bc_ fun g_=>?_;(conv at g_=>(arg 1;whnf));refine g_ ?_;clear g_;first|(intro bq;cases bq;rotate_left;(focus (intro hbq;exact absurd (hbq rfl) (by omega)));intro _)|((fail_if_success (apply cH_));(fail_if_success (apply uR_));apply Or.inl)|(apply rn_;exact rm_;exact me_)|(apply mt_;exact me_)|((fail_if_success (fail_if_success (apply Exists.intro)));first|(refine ⟨[1,1,1,0,1,0,1,1,1,0,1,0,1,1],[0,1,2,6,7,8,3,4,5,9,10,11,12,13],(okX_len (n:=14) rfl (by decide +kernel)),?_⟩;(conv=>whnf);(fail_if_success (apply fa_)))|(refine ⟨[1,1,1,1,1,1,1,0,1,1,1,0,1,3,1,3],[0,1,2,3,4,5,6,8,9,10,7,11,12,13,14,15],(okX_len (n:=16) rfl (by decide +kernel)),?_⟩;(conv=>whnf);(fail_if_success (apply fa_))))|(apply ob0_;first|(exact oA _ (by omega))|(exact oS1 _ _ (by omega))|(exact oS2 _ _ (by omega))|exact obc_|(exact of_decide_eq_true rfl))|(apply And.intro<;>(intro h;have hc:=h;(try exact nc1_ hc);(try exact nc2_ hc);try simp only [bs]at h))|(intro h;(try (unfold und at h;conv at h=>whnf));try simp only [bs]at h)|(apply wr0_;exact wrc_)|(apply wg0_;exact wgc_))
 all_goals (conv=>whnf)
 ·have e:=downS_end (n:=m) (l:=t) (i:=k) (by omega)
  rw [h4,e];refine⟨[],[],_,_,[],⟨rfl,rfl,rfl⟩,?_⟩
  conv=>whnf
  exact me_
 ·have ek:kidR m t k=2*k+2:=by unfold kidR;rw [if_pos (by omega),if_pos (by assumption)]
  have e:=downS_stop (n:=m) (l:=t) (i:=k) (by rw [ek];exact h)
  rw [h4,e];refine⟨[],[],_,_,[],⟨rfl,rfl,rfl⟩,?_⟩
  conv=>whnf
  exact me_
 ·have ek:kidR m t k=2*k+2:=by unfold kidR;rw [if_pos (by omega),if_pos (by assumption)]
  have e:=downS_go (n:=m) (l:=t) (i:=k) (by omega) (by rw [ek];exact h)
  rw [ek]at e;refine⟨by(try dsimp only);omega,?_,(swap_len t _ _).trans h2,NE_swap (l:=t) (i:=k) (j:=2*k+2) h3 hkl (by show _<List.length (α:=TabT 12) t;omega),?_⟩
  ·exact swap_lt (l:=t) (i:=k) (j:=2*k+2) (by show _<(List.length (α:=TabT 12) t:Int);(try dsimp only);omega)
  ·exact h4.trans e
 ·have ek:kidR m t k=2*k+1:=by unfold kidR;rw [if_pos (by omega),if_neg (by assumption)]
  have e:=downS_stop (n:=m) (l:=t) (i:=k) (by rw [ek];exact h)
  rw [h4,e];refine⟨[],[],_,_,[],⟨rfl,rfl,rfl⟩,?_⟩
  conv=>whnf
  exact me_
 ·have ek:kidR m t k=2*k+1:=by unfold kidR;rw [if_pos (by omega),if_neg (by assumption)]
  have e:=downS_go (n:=m) (l:=t) (i:=k) (by omega) (by rw [ek];exact h)
  rw [ek]at e;refine⟨by(try dsimp only);omega,?_,(swap_len t _ _).trans h2,NE_swap (l:=t) (i:=k) (j:=2*k+1) h3 hkl (by show _<List.length (α:=TabT 12) t;omega),?_⟩
  ·exact swap_lt (l:=t) (i:=k) (j:=2*k+1) (by show _<(List.length (α:=TabT 12) t:Int);(try dsimp only);omega)
  ·exact h4.trans e
 ·have ek:kidR m t k=2*k+1:=by unfold kidR;rw [if_neg (by omega)]
  have e:=downS_stop (n:=m) (l:=t) (i:=k) (by rw [ek];exact h)
  rw [h4,e];refine⟨[],[],_,_,[],⟨rfl,rfl,rfl⟩,?_⟩
  conv=>whnf
  exact me_
 ·have ek:kidR m t k=2*k+1:=by unfold kidR;rw [if_neg (by omega)]
  have e:=downS_go (n:=m) (l:=t) (i:=k) (by omega) (by rw [ek];exact h)
  rw [ek]at e;refine⟨by(try dsimp only);omega,?_,(swap_len t _ _).trans h2,NE_swap (l:=t) (i:=k) (j:=2*k+1) h3 hkl (by show _<List.length (α:=TabT 12) t;omega),?_⟩
  ·exact swap_lt (l:=t) (i:=k) (j:=2*k+1) (by show _<(List.length (α:=TabT 12) t:Int);(try dsimp only);omega)
  ·exact h4.trans e
end Go.SX
