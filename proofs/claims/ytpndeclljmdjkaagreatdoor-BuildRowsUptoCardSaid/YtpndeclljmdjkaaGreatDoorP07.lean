/- A part of the proof (texts SO, SP, SQ, SR, SS). -/
import Derived.Test.YtpndeclljmdjkaaGreatDoorP06
set_option linter.all false
set_option maxRecDepth 100000
namespace Go.SX
open List renaming getElem?_eq_getElem -> bZ
open Nat renaming eq_of_beq_eq_true -> dI
open Go.XK Go.RowKit
section
variable {E:En} {C:Cx} {σ:St} {m:Mm} {ids:List Value} {a:Act} {d:Option Tmp} {ty:TypeId} {pos:String} {af:Array Edge} {g:Option (Nat×Bool)} {K:St->Prop}
theorem UM (hS:Sat C σ m ids a) (hd:o7 d C.N=true) (hfr:fresh σ d=true) {T T':TypeId} {N k i o c:Nat} {n:Int} {l:Li c} {cs:List SV} {x y:Operand} {s:SV} {u:Value} {v:ah c} (hk:nO E T=some k)
   (hi:lk σ.heap i=some (.vec T' N c l)) (hl:len (cellsOf s)=k) (ho:o+k<=KT c) (h1:lK (cellsOf s)=true) (hcs:ES c (l.getD n.toNat (rE c))=some cs) (hv:DC c (over cs o (cellsOf s))=some v)
   (hx:∃ b,ids[i]?=some (.pointer (some ⟨b,0,none⟩))/\0<=n/\n<N/\XK.ev (dO a) x=some (.pointer (some ⟨b,n.toNat * KT c+o,none⟩))) (hy:XK.ev (dO a) y=some u) (hs:Den m ids s u)
   (hK:K (eX (setH σ i (.vec T' N c (l.set n.toNat v))) d .und)):EO E C K a m.w ⟨d,.store T x y,ty,pos,af,g⟩:=by
 obtain⟨b,hid,hn0,hn1,hx⟩:=hx;obtain⟨b',bC,h2,h3,h4,h5⟩:=hS.heap.sat i _ hi;rw [hid]at h2;cases h2;have hlt:n.toNat<l.length:=by omega
 obtain⟨zz,bb,h7⟩:=gY hk;obtain⟨inf,h8,_,h9,_⟩:=h7.ex;have hc:=lJ h1 hs;have hlen:=hc.length;rw [len_eq]at hl;rw [Array.length_toList]at hlen;have hfl:=h4.flat
 have hle0:n.toNat * KT c+KT c<=l.length*KT c:=by
   have:=Nat.mul_le_mul_right (KT c) hlt;rw [Nat.succ_mul]at this;exact this
 have zU:Fp ids i (.vec T' N c l) b:=⟨rfl,_,hid,rfl⟩;refine qK (Stp.XI (T':=T') (old:=bC.flatten) (by rw [h8,Option.map_some,h9];congr 1;omega) hx hy h3 (by rw [hfl];simp;omega) (rY h1 hc) fun w' hu hr=>?_)
 have hle:=CO hS hi zU hu;obtain⟨us,hus,hdl⟩:=h4.2.2 n.toNat l[n.toNat] (bZ hlt);have hget:l.getD n.toNat (rE c)=l[n.toNat]:=by rw [List.getD_eq_getElem?_getD,bZ hlt];rfl
 rw [hget]at hcs;have hcells:=(nI (ids:=ids) c _ hcs).1 hdl;have hul:us.length=KT c:=by rw [hdl.len,Iz]
 have hnew:=Po c hv (qN hcells hc (by have:=hcells.length;omega))
 refine Out.upd (hb':=.vec T' N c (l.set n.toNat v)) hS hi hu zU ⟨_,bC.set n.toNat (vD us o u.cells.toList),hid,?_,(h4.set hlt hnew).le hle,by rw [List.length_set];exact h5⟩ (fun b' hf=>Lv (hb:=.gone) hid hf) hd hfr (by rw [Den]) hK
 rw [xw h4.2.1 hus (by simp;omega)]
 exact hr
theorem XG (hS:Sat C σ m ids a) (hd:o7 d C.N=true) (hfr:fresh σ d=true) {T T':TypeId} {N k i c:Nat} {l0 l:Li c} {x y:Operand} {u:Value} (hk:nO E T=some k)
   (hi:lk σ.heap i=some (.vec T' N c l0)) (hl:k=N*KT c) (hx:∃ b,ids[i]?=some (.pointer (some ⟨b,0,none⟩))/\XK.ev (dO a) x=some (.pointer (some ⟨b,0,none⟩))) (hy:XK.ev (dO a) y=some u) (hs:Den m ids (.av c N l) u)
   (hK:K (eX (setH σ i (.vec T' N c l)) d .und)):EO E C K a m.w ⟨d,.store T x y,ty,pos,af,g⟩:=by
 obtain⟨b,hid,hx⟩:=hx;obtain⟨b',bC,h2,h3,h4,h5⟩:=hS.heap.sat i _ hi;rw [hid]at h2;cases h2;rw [Den]at hs;obtain⟨uss',rfl,h6,h7⟩:=hs;obtain⟨zz,bb,q7⟩:=gY hk;obtain⟨inf,h8,_,h9,_⟩:=q7.ex;have zU:Fp ids i (.vec T' N c l0) b:=⟨rfl,_,hid,rfl⟩;have hf1:=h4.flat;have hf2:=h6.flat;have hcz:(Value.agg uss'.flatten.toArray).cells=uss'.flatten.toArray:=rfl;refine qK (Stp.store (T':=T') (old:=bC.flatten) (by rw [h8,Option.map_some,h9,hcz];congr 1;simp only [List.size_toArray];rw [hf2,h7,hl]) hx hy h3 (by rw [hcz];simp only [List.size_toArray];rw [hf1,hf2,h5,h7]) ?_ fun w' hu hr=>?_)
 ·rw [hcz,List.toList_toArray,List.all_eq_true];exact fun q hq=>h6.one q hq
 ·have hle:=CO hS hi zU hu;refine Out.upd (hb':=.vec T' N c l) hS hi hu zU ⟨_,uss',hid,?_,h6.le hle,h7⟩ (fun b' hf=>Lv (hb:=.gone) hid hf) hd hfr (by rw [Den]) hK
  rw [hcz,List.toList_toArray]at hr;exact hr
theorem toAv_den {c N:Nat} {s:SV} {y:Value} (h:Den m ids s y):Den m ids (toAv c N s) y:=by
 unfold toAv;split
 ·split
  ·rename_i l hl;rw [Den]at h;obtain⟨us,rfl,h1⟩:=h;obtain⟨bC,e,h2,h3⟩:=EM hl h1;rw [Den];exact⟨bC,by rw [e],h2,h3⟩
  ·exact h
 ·exact h
theorem Yn {us:List Value} {k:Nat} {u:Value} (hk:k<us.length):XK.sV us k [u]=us.set k u:=by
 rw [XK.sV,List.set_eq_take_append_cons_drop,if_pos hk];simp
theorem UO (hS:Sat C σ m ids a) (hd:o7 d C.N=true) (hfr:fresh σ d=true) {T T1 T2 c' c i j j0:Nat} {n:Int} {ls:Li c'} {x y:Operand} {u:Value} (hk:nO E T=some 1) (hi:lk σ.heap i=some (.p8 T1 T2 c' c ls (some (n,j0))))
   (hx:∃ b q nn cp vs,ids[i]?=some (.tuple (.slice (some ⟨b,q,none⟩) nn cp::vs).toArray)/\0<=n/\n<nn/\XK.ev (dO a) x=some (.pointer (some ⟨b,q+n.toNat,none⟩))) (hy:XK.ev (dO a) y=some u) (hs:Den m ids (.bT j) u)
   (hK:K (eX (setH σ i (.p8 T1 T2 c' c ls (some (n,j)))) d .und)):EO E C K a m.w ⟨d,.store T x y,ty,pos,af,g⟩:=by
 obtain⟨b,q,nn,cp,vs0,hid,hn0,hn1,hx⟩:=hx;obtain⟨v,vs,us,q1,q2⟩:=hS.heap.sat i _ hi;obtain⟨rfl,rfl⟩:=xY hid q1;obtain⟨k0,kl,kv,_⟩:=q2.hole n j0 rfl;obtain⟨zz,bb,h7⟩:=gY hk;obtain⟨inf,h8,_,h9,_⟩:=h7.ex;have hc:=lJ (s:=.bT j) rfl hs;rw [Den]at hs
 have huc:u.cells.toList=[u]:=by
   simp only [cellsOf]at hc;rw [aC]at hc;obtain⟨u',r,e1,e2,e3⟩:=hc;rw [aC]at e3;subst e3;rw [Den]at e2;rw [hs.1]at e2;cases e2.1;exact e1
 have hus:us.length=ls.length:=by have:=q2.out.1;omega
 have zU:Fp ids i (.p8 T1 T2 c' c ls (some (n,j0))) b:=(uV q1).2 ⟨0,_,rfl,rfl⟩;refine qK (Stp.XH (v:=.slice (some ⟨b,q,none⟩) nn cp) (c:=n.toNat) (by rw [h8,Option.map_some,h9];congr 1;rw [<- Array.length_toList,huc];rfl) (by rw [huc];simp [hs.2]) q2.out (by rw [huc];simp;omega) hx hy au fun w' hu hr=>?_)
 have hle:=CO hS hi zU hu;rw [huc,Yn au]at hr
 refine⟨_,m.S,ids,(hS.updG (hb':=.p8 T1 T2 c' c ls (some (n,j))) hi hu zU ⟨_,_,us.set n.toNat u,q1,hr,q2.len,q2.K1,q2.B,fun r y hr hne=>?_,fun k j' e=>?_,q2.sep⟩ fun b' hf=>(uV q1).2 ((uV q1).1 hf)).put hd hfr (by rw [Den]),hK⟩
 ·have hne':r≠n.toNat:=hne n j rfl;obtain⟨w,w1,w2,l,bC,w3,w4,w5,w6⟩:=q2.row r y hr (fun k' j' e=>by cases e;exact hne')
  refine⟨w,w1,by rw [List.getElem?_set_ne (Ne.symm hne')];exact w2,l,bC,w3,yw w4 fun b' hb=>hu.block b' fun e=>?_,w5.le hle,w6⟩
  subst e;exact q2.sep 0 (r+1) _ w b' rfl (by simpa using w1) au rfl hb
 ·cases e;exact⟨k0,kl,kv,u,by rw [List.getElem?_set_self au],hs.1,hs.2⟩
theorem XF (hS:Sat C σ m ids a) (hd:o7 d C.N=true) (hfr:fresh σ d=true) {T:TypeId} {x y:Operand} {p s:SV} {q u:Value} (hx:XK.ev (dO a) x=some q) (hy:XK.ev (dO a) y=some u) (hp:Den m ids p q) (hs:Den m ids s u) (h:KZ E σ d T p s K) :
   EO E C K a m.w ⟨d,.store T x y,ty,pos,af,g⟩:=by
 unfold KZ at h;split at h
 ·cases h
 ·rename_i k hk;split at h
  ·rename_i i o;rw [Den]at hp;obtain⟨b,hid,rfl⟩:=hp;split at h
   ·rename_i T' cs hl;split at h
    ·rename_i h1 h2 h3;exact UN hS hd hfr hk hl (dI h1) (Nat.le_of_ble_eq_true h2) h3 ⟨b,hid,hx⟩ hy hs h
    ·cases h
   ·rename_i T' N c l0 hl;split at h
    ·rename_i c' N' l' hto;have hs:=hto▸toAv_den (c:=c) (N:=N) hs;split at h
     ·rename_i l hcast hN hkk;obtain⟨e,hcast⟩:=dU hcast;subst e;have hcast:l'=l:=hcast;subst hcast;have hN:=dI hN;subst hN;exact XG hS hd hfr hk hl (dI hkk) ⟨b,hid,hx⟩ hy hs h
     ·cases h
    ·cases h
   ·cases h
  ·rename_i i c n o;rw [Den]at hp;obtain⟨b,q0,nn,cp,hid,h0,h1,rfl⟩:=hp;split at h
   ·rename_i T' z c' l' hl;split at h
    ·rename_i l hcast h2 h3 h4;obtain⟨e,hcast⟩:=dU hcast;subst e;have hcast:l'=l:=hcast;subst hcast;rw [Bool.and_eq_true]at h3;split at h
     ·rename_i cs hcs;split at h
      ·rename_i v hv;exact P5 hS hd hfr hk hl (dI h2) (Nat.le_of_ble_eq_true h3.1) (Nat.le_of_ble_eq_true h3.2) h4 hcs hv ⟨b,q0,nn,cp,hid,h0,h1,hx⟩ hy hs h
      ·cases h
     ·cases h
    ·cases h
   ·cases h
  ·rename_i i n;split at h
   ·rename_i T1 T2 c' c ls k0 j0 j hi;split at h
    ·rename_i hj hk1;obtain⟨⟨e⟩,h⟩:=h;subst e;rw [Den]at hp;obtain⟨b,q0,nn,cp,vs,hid,h0,h1,rfl⟩:=hp;have hk1:=dI hk1;subst hk1;exact UO hS hd hfr hk hi ⟨b,q0,nn,cp,vs,hid,h0,h1,hx⟩ hy hs h
    ·cases h
   ·cases h
  ·rename_i i c N n o;rw [Den]at hp;obtain⟨b,hid,h0,h1,rfl⟩:=hp;split at h
   ·rename_i T' N' c' l' hl;split at h
    ·rename_i l hcast h2 h3 h4 h5;obtain⟨e,hcast⟩:=dU hcast;subst e;have hcast:l'=l:=hcast;subst hcast;rw [Bool.and_eq_true]at h3;have h5:=dI h5;subst h5;split at h
     ·rename_i cs hcs;split at h
      ·rename_i v hv;exact UM hS hd hfr hk hl (dI h2) (Nat.le_of_ble_eq_true h3.1) h4 hcs hv ⟨b,hid,h0,h1,hx⟩ hy hs h
      ·cases h
     ·cases h
    ·cases h
   ·cases h
  ·cases h
theorem box_ok (hS:Sat C σ m ids a) (hG:lU E.G m) (hd:o7 d C.N=true) (hfr:fresh σ d=true) {T:TypeId} {x:Operand} {ic:Ic} {k:Nat} (h:vcL E ic k σ d (.box T x) K):I4 E C K a m.w ⟨d,.box T x,ty,pos,af,g⟩:=by
 have hh:Holds a []:=fun g hg=>by cases hg
 simp only [vcL]at h;split at h
 ·rename_i c N l hs;obtain⟨u,h1,_,h2⟩:=hS.toSatF.ev hG hh hs;split at h
  ·rename_i n e k _ _ _ _ hT;split at h
   ·rename_i hn hk;have hn:=dI hn;rw [Den]at h2;obtain⟨bC,rfl,h3,h4⟩:=h2;refine zy (Stp.box h1 fun w' hext hsz hr=>⟨hext,?_⟩)
    have hle:m.le ⟨w',m.S⟩:=Ext.le (S:=m.S) hext fun b hb=>(hS.S b hb).1
    refine Out.new hS hext _ (.vec T N c l) ⟨m.w.heap.size,bC,iq hS _,?_,h3.le hle,h4⟩ (fun b hf=>?_) hd hfr (MN hS w' _) h
    ·have hcz:(Value.agg bC.flatten.toArray).cells=bC.flatten.toArray:=rfl;rw [hcz,List.toList_toArray]at hr;exact hr
    ·have:=oC hS hf;cases this;exact Nat.le_refl _
   ·cases h
  ·cases h
 ·rename_i s _ hs;obtain⟨u,h1,_,h2⟩:=hS.toSatF.ev hG hh hs;split at h
  ·rename_i h3;exact zy (Stp.box h1 fun w' hext hsz hr=>⟨hext,SS hS hd hfr (lJ h3 h2) h hext hr⟩)
  ·cases h
 ·cases h
theorem alloc_ok (hS:Sat C σ m ids a) (hd:o7 d C.N=true) (hfr:fresh σ d=true) {T:TypeId} {ic:Ic} {k:Nat} (h:vcL E ic k σ d (.alloc T) K):I4 E C K a m.w ⟨d,.alloc T,ty,pos,af,g⟩:=by
 simp only [vcL]at h;split at h
 ·rename_i i hT;exact zy (Stp.alloc (iN hT) fun w' hext hsz hr=>⟨hext,SS hS hd hfr (oq _) h hext hr⟩)
 ·cases h
end
theorem CK {i:Nat}:∀ {l:List Nat},Oc i l=true↔i∈l
 |[]=>by simp [Oc]
 |j::r=>by
   simp only [Oc]
   by_cases h:i=j
   ·subst h;simp
   ·have hb:Nat.beq i j=false:=by
      cases hb:Nat.beq i j with
      |false=>rfl
      |true=>exact absurd (dI hb) h
    simp [hb,h,CK]
theorem wO:∀ {l:List Nat},Gx l=true->l.Nodup
 |[],_=>List.nodup_nil
 |i::r,h=>by
   simp only [Gx]at h;split at h
   ·cases h
   ·rename_i hm;rw [List.nodup_cons];refine⟨fun hi=>?_,wO h⟩
    rw [CK.2 hi]at hm;cases hm
theorem og {n:Nat}:∀ {l:List Nat},D7 n l=true->∀ i∈l,i<n
 |[],_,_,h=>by cases h
 |j::r,h,i,hi=>by
   simp only [D7]at h;split at h
   ·rename_i hb;rcases List.mem_cons.1 hi with rfl|hi
    ·exact Nat.le_of_ble_eq_true hb
    ·exact og h i hi
   ·cases h
theorem G8 {α:Type}:∀ {H:List (Nat×α)} {i:Nat} {x:α},lk H i=some x->(i,x)∈H
 |[],_,_,h=>by cases h
 |(k,v)::r,i,x,h=>by
   rw [bG]at h;split at h
   ·rename_i e;subst e;cases h;exact List.mem_cons_self ..
   ·exact List.mem_cons_of_mem _ (G8 h)
theorem CS:∀ {H:List (Nat×HB)} {i:Nat} {x:HB},(i,x)∈H->i∈AZ H
 |[],_,_,h=>by cases h
 |(k,v)::r,i,x,h=>by
   rcases List.mem_cons.1 h with e|h
   ·cases e;exact List.mem_cons_self ..
   ·exact List.mem_cons_of_mem _ (CS h)
theorem yC {i:Nat} {hb:HB}:∀ {H:List (Nat×HB)} {seen:List Nat},lk H i=some hb->hb≠.gone->i ∉ seen->(i,hb)∈live seen H
 |[],_,h,_,_=>by cases h
 |(k,v)::r,seen,h,hg,hs=>by
   rw [bG]at h;simp only [live]
   by_cases hk:k=i
   ·subst hk;rw [if_pos rfl]at h;cases h
    have:Oc k seen=false:=by
      cases hm:Oc k seen with
      |false=>rfl
      |true=>exact absurd (CK.1 hm) hs
    rw [this];cases hb<;>first|exact absurd rfl hg|exact List.mem_cons_self ..
   ·rw [if_neg hk]at h
    have hs':i ∉ k::seen:=fun hi=>by
      rcases List.mem_cons.1 hi with e|hi
      ·exact hk e.symm
      ·exact hs hi
    split
    ·exact yC h hg hs
    ·split
     ·exact yC h hg hs'
     ·exact List.mem_cons_of_mem _ (yC h hg hs')
theorem UA {σ:St} {n z:Nat} {r:List Nat}:∀ {l:List (Nat×HB)},HM σ n z r l->∀ p∈l,lk σ.heap (rn n z r p.1)=some (zG n z r p.2)
 |[],_,_,h=>by cases h
 |(i,h)::l,⟨h1,h2⟩,p,hp=>by
   rcases List.mem_cons.1 hp with rfl|hp
   ·exact h1
   ·exact UA h2 p hp
theorem Lr {r:List Nat} {H:List (Nat×HB)} {i:Nat} {hb:HB} (h:lk (OG r++H) i=some hb):(i∈r/\hb=.gone)\/(i ∉ r/\lk H i=some hb):=by
 induction r with
 |nil=>exact .inr ⟨by simp,h⟩
 |cons k r ih =>
   simp only [OG,List.cons_append,bG]at h;split at h
   ·rename_i e;cases h;exact .inl ⟨by rw [e];exact List.mem_cons_self ..,rfl⟩
   ·rename_i e;rcases ih h with ⟨h1,h2⟩|⟨h1,h2⟩
    ·exact .inl ⟨List.mem_cons_of_mem _ h1,h2⟩
    ·exact .inr ⟨fun hi=>by
                              rcases List.mem_cons.1 hi with e2|hi
                              ·exact e e2.symm
                              ·exact h1 hi,h2⟩
theorem rn0 {z:Nat} {r:List Nat} {i:Nat} (hi:i<r.length):rn 0 z r i=r[i]:=by
 simp only [rn,Nat.sub_zero,pE,bZ hi];rfl
theorem rn0_big {z:Nat} {r:List Nat} {i:Nat} (hi:r.length<=i):rn 0 z r i=i+z:=by
 simp only [rn,Nat.sub_zero,pE,List.getElem?_eq_none hi];rfl
theorem zo:∀ (k n:Nat),(ig k n).length=n
 |_,0=>rfl
 |k,n+1=>by simp [ig,zo (k+1) n]
theorem zq:∀ (k n i:Nat),i<n->(ig k n)[i]?=some (k+i)
 |_,0,_,h=>absurd h (Nat.not_lt_zero _)
 |k,n+1,0,_=>rfl
 |k,n+1,i+1,h=>by
   simp only [ig,List.getElem?_cons_succ];rw [zq (k+1) n i au]
   congr 1
   omega
section
variable {m m':Mm} {ids aO:List Value} {n z:Nat} {r:List Nat}
theorem jG.ren (hr:Rn n z r ids aO) {i:Nat} {hb:HB} (h:jG m ids i hb):jG m aO (rn n z r i) (zG n z r hb):=by
 cases hb with
 |row=>obtain⟨b,vs,h1,h2,h3⟩:=h;exact⟨b,vs,jy hr h1,h2,aC.ren hr _ h3⟩
 |Hy=>obtain⟨b,vs,h1,h2,h3,h4⟩:=h;exact⟨b,vs,jy hr h1,h2,aC.ren hr _ h3,h4⟩
 |arr=>obtain⟨v,bC,h1,h2⟩:=h;exact⟨v,bC,jy hr h1,h2⟩
 |far=>obtain⟨v,h1,h2⟩:=h;exact⟨v,jy hr h1,h2⟩
 |vec=>obtain⟨b,bC,h1,h2⟩:=h;exact⟨b,bC,jy hr h1,h2⟩
 |mp=>obtain⟨b,h1,h2⟩:=h;exact⟨b,jy hr h1,h2⟩
 |p8 T T' c' c ls hh =>
   obtain⟨v,vs,us,h1,h2⟩:=h
   cases hh with
   |none=>exact⟨v,vs,us,jy hr h1,h2.1,h2.2,h2.3,h2.4,h2.5,fun k j e=>by(cases e),h2.7⟩
   |some p =>
     obtain⟨k0,j0⟩:=p
     exact⟨v,vs,us,jy hr h1,h2.1,h2.2,h2.3,h2.4,fun r x hx hne=>h2.5 r x hx fun k j e=>hne k (SX.rn n z _ j) (by cases e;rfl),fun k j e=>by
       cases e;obtain⟨q1,q2,q3,u,q4,q5,q6⟩:=h2.6 k0 j0 rfl
       exact⟨q1,q2,q3,u,q4,jy hr q5,q6⟩,h2.7⟩
 |NW=>obtain⟨v,vs,h1,h2⟩:=h;exact⟨v,vs,jy hr h1,h2⟩
 |ext=>obtain⟨v,h1,h2⟩:=h;exact⟨v,jy hr h1,h2⟩
 |gone=>trivial
theorem jG.kN (hr:Rn' n z r ids aO) {i:Nat} {hb:HB} (h:jG m aO (rn n z r i) (zG n z r hb)):jG m ids i hb:=by
 cases hb with
 |row=>obtain⟨b,vs,h1,h2,h3⟩:=h;exact⟨b,vs,(hr i).trans h1,h2,aC.kN hr _ h3⟩
 |Hy=>obtain⟨b,vs,h1,h2,h3,h4⟩:=h;exact⟨b,vs,(hr i).trans h1,h2,aC.kN hr _ h3,h4⟩
 |arr=>obtain⟨v,bC,h1,h2⟩:=h;exact⟨v,bC,(hr i).trans h1,h2⟩
 |far=>obtain⟨v,h1,h2⟩:=h;exact⟨v,(hr i).trans h1,h2⟩
 |vec=>obtain⟨b,bC,h1,h2⟩:=h;exact⟨b,bC,(hr i).trans h1,h2⟩
 |mp=>obtain⟨b,h1,h2⟩:=h;exact⟨b,(hr i).trans h1,h2⟩
 |p8 T T' c' c ls hh =>
   cases hh with
   |none =>
     obtain⟨v,vs,us,h1,h2⟩:=h;exact⟨v,vs,us,(hr i).trans h1,h2.1,h2.2,h2.3,h2.4,h2.5,fun k j e=>by(cases e),h2.7⟩
   |some p =>
     obtain⟨k0,j0⟩:=p;obtain⟨v,vs,us,h1,h2⟩:=h
     exact⟨v,vs,us,(hr i).trans h1,h2.1,h2.2,h2.3,h2.4,fun r x hx hne=>h2.5 r x hx fun k j e=>hne k j0 (by cases e;rfl),fun k j e=>by
       cases e;obtain⟨q1,q2,q3,u,q4,q5,q6⟩:=h2.6 k0 _ rfl
       exact⟨q1,q2,q3,u,q4,(hr j0).trans q5,q6⟩,h2.7⟩
 |NW=>obtain⟨v,vs,h1,h2⟩:=h;exact⟨v,vs,(hr i).trans h1,h2⟩
 |ext=>obtain⟨v,h1,h2⟩:=h;exact⟨v,(hr i).trans h1,h2⟩
 |gone=>trivial
theorem LQ {hb:HB}:(zG n z r hb).own=hb.own:=by
 cases hb<;>first|rfl|(rename_i h;rcases h with _|⟨_,_⟩<;>rfl)
theorem Fp.ren (hr:Rn n z r ids aO) {i:Nat} {hb:HB} {b:Nat} (h:Fp ids i hb b):Fp aO (rn n z r i) (zG n z r hb) b:=by
 obtain⟨h1,v,h2,h3⟩:=h;exact⟨LQ.trans h1,v,jy hr h2,h3⟩
theorem Fp.kN (hr:Rn' n z r ids aO) {i:Nat} {hb:HB} {b:Nat} (h:Fp aO (rn n z r i) (zG n z r hb) b):Fp ids i hb b:=by
 obtain⟨h1,v,h2,h3⟩:=h;exact⟨LQ.symm.trans h1,v,(hr i).trans h2,h3⟩
theorem Rn'.rn (h:Rn' n z r ids aO):Rn n z r ids aO:=fun i _=>h i
theorem renH_lk {H:List (Nat×HB)} {j:Nat} {hb:HB} (h:lk (renH n z r H) j=some hb) (hinj:∀ i i',i∈AZ H->i'∈AZ H->SX.rn n z r i=SX.rn n z r i'->i=i'):∃ i hb',SX.rn n z r i=j/\lk H i=some hb'/\hb=zG n z r hb':=by
 induction H with
 |nil=>cases h
 |cons p H ih =>
   obtain⟨k,x⟩:=p;simp only [renH,bG]at h;split at h
   ·rename_i e;cases h;exact⟨k,x,e,by rw [bG,if_pos rfl],rfl⟩
   ·rename_i e;obtain⟨i,hb',h1,h2,h3⟩:=ih h fun i i' hi hi'=>hinj i i' (List.mem_cons_of_mem _ hi) (List.mem_cons_of_mem _ hi')
    refine⟨i,hb',h1,?_,h3⟩;rw [bG,if_neg]
    ·exact h2
    ·intro e2;subst e2;exact e h1
theorem VB {α:Type} {A B:List (Nat×α)} {i:Nat}:lk (A++B) i=match lk A i with
   |some x=>some x
   |none=>lk B i:=by
 induction A with
 |nil=>rfl
 |cons p A ih =>
   obtain⟨k,x⟩:=p;rw [List.cons_append,bG,bG,ih];split<;>rfl
end
section
variable {E:En} {C:Cx} {σ:St} {m:Mm} {ids:List Value} {a:Act} {d:Option Tmp} {ty:TypeId} {pos:String} {af:Array Edge} {g:Option (Nat×Bool)} {K:St->Prop}
theorem rn2_inj {nb n n':Nat} {r:List Nat} (hnd:r.Nodup) (hlt:∀ i∈r,i<nb) (hn:r.length=n) (i i':Nat) (hi:i<n') (hi':i'<n') (hnn:n<=n') (h:rn 0 0 (r++ig nb (n'-n)) i=rn 0 0 (r++ig nb (n'-n)) i'):i=i':=by
 have hl:(r++ig nb (n'-n)).length=n':=by rw [List.length_append,zo,hn];omega
 have val:∀ i,i<n'->(i<n/\rn 0 0 (r++ig nb (n'-n)) i∈r/\r[i]?=some (rn 0 0 (r++ig nb (n'-n)) i))\/(n<=i/\rn 0 0 (r++ig nb (n'-n)) i=nb+(i-n)):=by
   intro i hi
   have hget:(r++ig nb (n'-n))[i]?=some (rn 0 0 (r++ig nb (n'-n)) i):=by
     rw [rn0 (by rw [hl];exact hi),bZ]
   by_cases hlt':i<n
   ·rw [List.getElem?_append_left au]at hget
    exact .inl ⟨hlt',List.mem_of_getElem? hget,hget⟩
   ·rw [List.getElem?_append_right au,zq _ _ _ au]at hget
    refine .inr ⟨au,?_⟩
    have:=Option.some.inj hget;rw [<- this,hn]
 rcases val i hi with ⟨h1,h2,h3⟩|⟨h1,h2⟩<;>rcases val i' hi' with ⟨h4,h5,h6⟩|⟨h4,h5⟩
 ·rw [h]at h3;exact(List.getElem?_inj au hnd).1 (h3.trans h6.symm)
 ·have:=hlt _ h2;omega
 ·have:=hlt _ h5;omega
 ·omega
theorem O0 (hS:Sat C σ m ids a) (jF:C.G=E.G) (hd:o7 d C.N=true) (hfr:fresh σ d=true) {f:FuncId} {args:List SV} {vs:List Value} (hv:aC m ids args vs) (h:O1 E σ d f args K) :
   dA E.P f/\Calls E.P f vs.toArray m.w fun e w'=>∃ v,e=.returned v/\Out C K (a.put d v) w':=by
 obtain⟨n,A,H,R,r,hc,hnd,hrl,hrn,hargs,hkl,hHM,hK⟩:=h;have hnd:=wO hnd;have hrl:=og hrl;have hkl:=og hkl;rw [len_eq]at hrn;have hlen:=hS.len
 have hids:∃ idc:List Value,idc.length=n/\Rn' 0 σ.nb r idc ids:=by
   refine⟨r.map fun j=>ids.getD j undef,by rw [List.length_map,hrn],fun i=>?_⟩
   by_cases hi:i<r.length
   ·rw [rn0 hi,List.getElem?_map,bZ hi,Option.map_some];have:=hrl _ (List.getElem_mem hi);rw [bZ au,List.getD_eq_getElem?_getD,bZ au,Option.getD_some]
   ·rw [rn0_big au,List.getElem?_eq_none (by rw [List.length_map];omega),List.getElem?_eq_none au]
 obtain⟨idc,hcl,hrr⟩:=hids;have hHM:=UA hHM
 have Gn:∀ i hb b,lk H i=some hb->Fp idc i hb b->lk σ.heap (rn 0 σ.nb r i)=some (zG 0 σ.nb r hb)/\i<n/\Fp ids (rn 0 σ.nb r i) (zG 0 σ.nb r hb) b:=fun i hb b hi hf=>by
   have hng:hb≠.gone:=fun e=>by subst e;exact absurd hf.1 (by simp [HB.own])
   exact⟨hHM _ (yC hi hng (by simp)),hkl i (CS (G8 hi)),hf.ren hrr.rn⟩
 have hHO:pQ m idc H:=by
   refine⟨fun i hb hi=>?_,fun i hb j hb' hi hj hne b f1 f2=>?_,fun i hb b hi f1=>?_⟩
   ·by_cases hg:hb=.gone
    ·subst hg;trivial
    ·exact jG.kN hrr (hS.heap.sat _ _ (hHM _ (yC hi hg (by simp))))
   ·obtain⟨q1,q2,q3⟩:=Gn i hb b hi f1;obtain⟨q4,q5,q6⟩:=Gn j hb' b hj f2;refine hS.heap.sep _ _ _ _ q1 q4 (fun e=>hne ?_) b q3 q6
    rw [rn0 au,rn0 au]at e
    exact(List.getElem_inj (hnd)).1 e
   ·obtain⟨q1,_,q3⟩:=Gn i hb b hi f1;exact hS.heap.vG _ _ b q1 q3
 have hvA:aC m idc A vs:=aC.kN hrr A (by rw [hargs];exact hv)
 have hG:lU E.G m:=jF▸hS.oH;refine⟨hc.fn,(hc.ok m idc vs hG (fun b hb=>(hS.S b hb).1) hcl hHO hvA).mono fun e w' ⟨v,S',aO,s,H',he,hR,hmod,hle,hS',hpre,hnn,hHO',hHT,hden⟩=>⟨v,he,?_⟩⟩
 obtain⟨k1,k2,k3⟩:=hK s H' aO.length hR;rw [iL]at k3;have k1:=og k1
 have QJ:∀ b,HT idc H b->C.T0 b\/C.w0.heap.size<=b:=fun b ⟨i,hb,hi,hf⟩=>by
   obtain⟨q1,_,q3⟩:=Gn i hb b hi hf;exact hS.low _ _ b q1 q3
 have hsz:=hS.mod.size;have rinj:=fun i i' (hi:i∈AZ H') (hi':i'∈AZ H')=>rn2_inj (nb:=σ.nb) hnd hrl hrn i i' (k1 i hi) (k1 i' hi') hnn
 have hrr2:Rn 0 0 (r++ig σ.nb (aO.length-n)) aO (ids++aO.drop n):=fun i hi=>by
   have hl2:(r++ig σ.nb (aO.length-n)).length=aO.length:=by rw [List.length_append,zo,hrn];omega
   rw [rn0 au]
   by_cases hin:i<n
   ·rw [hpre i hin,hrr i,rn0 au]
    have e1:(r++ig σ.nb (aO.length-n))[i]=r[i]:=List.getElem_append_left au
    rw [e1,List.getElem?_append_left];have:=hrl _ (List.getElem_mem (show i<r.length by omega))
    omega
   ·have e1:(r++ig σ.nb (aO.length-n))[i]=σ.nb+(i-n):=by
      apply Option.some.inj;rw [<- bZ,List.getElem?_append_right au,hrn,zq _ _ _ au]
    rw [e1,List.getElem?_append_right au,List.getElem?_drop,hlen]
    congr 1
    omega
 have oldK:∀ i hb,i ∉ r->lk σ.heap i=some hb->jG ⟨w',S'⟩ (ids++aO.drop n) i hb:=fun i hb hir hi =>
   ((
     hS.heap.sat i hb hi).le hle fun b hf=>hmod.block b (rW (hS.heap.sat i hb hi) hf) fun⟨j,hb',hj,hf'⟩=>by
     obtain⟨q1,q2,q3⟩:=Gn j hb' b hj hf';refine hS.heap.sep _ _ _ _ hi q1 (fun e=>hir ?_) b hf q3
     rw [e,rn0 au]
     exact List.getElem_mem _).app _
 have vK:∀ i hb b,lk σ.heap i=some hb->Fp (ids++aO.drop n) i hb b->Fp ids i hb b:=fun i hb b hi hf=>Q6 (hS.heap.sat i hb hi) hf
 have oldN:∀ i hb b,i ∉ r->lk σ.heap i=some hb->Fp ids i hb b->¬ HT idc H b/\b<m.w.heap.size:=fun i hb b hir hi hf=>⟨fun⟨j,hb',hj,hf'⟩=>by
   obtain⟨q1,q2,q3⟩:=Gn j hb' b hj hf';refine hS.heap.sep _ _ _ _ hi q1 (fun e=>hir ?_) b hf q3
   rw [e,rn0 au]
   exact List.getElem_mem _,rW (hS.heap.sat i hb hi) hf⟩
 have newF:∀ i hb b,lk H' i=some hb->Fp (ids++aO.drop n) (rn 0 0 (r++ig σ.nb (aO.length-n)) i) (zG 0 0 (r++ig σ.nb (aO.length-n)) hb) b->Fp aO i hb b:=fun i hb b hi ⟨h1,v,h2,h3⟩=>by
   refine⟨LQ.symm.trans h1,v,?_,h3⟩;rw [hrr2 i (k1 i (CS (G8 hi)))];exact h2
 have nY:∀ i hb,lk (Ws σ n r H' aO.length).heap i=some hb->(∃ j hb',rn 0 0 (r++ig σ.nb (aO.length-n)) j=i/\lk H' j=some hb'/\hb=zG 0 0 (r++ig σ.nb (aO.length-n)) hb')\/hb=.gone\/(i ∉ r/\lk σ.heap i=some hb):=by
   intro i hb hi;simp only [Ws]at hi;rw [VB]at hi;split at hi
   ·rename_i x hx;cases hi;exact .inl (renH_lk hx rinj)
   ·rcases Lr hi with ⟨_,h2⟩|h2
    ·exact .inr (.inl h2)
    ·exact .inr (.inr h2)
 have xk:∀ {i b},¬ Fp (ids++aO.drop n) i HB.gone b:=fun⟨h,_⟩=>by cases h
 have GA:∀ j hb' i hb b,lk H' j=some hb'->Fp aO j hb' b->i ∉ r->lk σ.heap i=some hb->¬ Fp (ids++aO.drop n) i hb b:=fun j hb' i hb b hj f1 hir hi f2=>by
   obtain⟨q1,q2⟩:=oldN i hb b hir hi (vK i hb b hi f2);rcases hHT b ⟨j,hb',hj,f1⟩with q3|q3
   ·exact q1 q3
   ·omega
 have hout:Sat C (Ws σ n r H' aO.length) ⟨w',S'⟩ (ids++aO.drop n) a:=by
   refine⟨⟨?_,⟨fun i hb hi=>?_,fun i hb j hb' hi hj hne b f1 f2=>?_,fun i hb b hi f1 f2=>?_⟩,fun i hb b hi f1=>?_,fun b hb=>(hle.S b (hS.S0 b hb)).1,fun b hb=>?_,?_,hS.oH.le hle,hS.n0,fun i hi=>?_⟩,((hS.toSatF.le hle).app _).of rfl rfl rfl⟩
   ·simp only [Ws];rw [List.length_append,List.length_drop,hlen]
   ·rcases nY i hb hi with ⟨j,hb',rfl,h2,rfl⟩|rfl|⟨h1,h2⟩
    ·exact(hHO'.sat j hb' h2).ren hrr2
    ·trivial
    ·exact oldK i hb h1 h2
   ·rcases nY i hb hi with ⟨i1,hb1,rfl,h2,rfl⟩|rfl|⟨h1,h2⟩
    ·have f1':=newF i1 hb1 b h2 f1;rcases nY j hb' hj with ⟨j1,hb2,rfl,h4,rfl⟩|rfl|⟨h3,h4⟩
     ·exact hHO'.sep i1 hb1 j1 hb2 h2 h4 (fun e=>hne (by rw [e])) b f1' (newF j1 hb2 b h4 f2)
     ·exact xk f2
     ·exact GA i1 hb1 j hb' b h2 f1' h3 h4 f2
    ·exact xk f1
    ·rcases nY j hb' hj with ⟨j1,hb2,rfl,h4,rfl⟩|rfl|⟨h3,h4⟩
     ·exact GA j1 hb2 i hb b h4 (newF j1 hb2 b h4 f2) h1 h2 f1
     ·exact xk f2
     ·exact hS.heap.sep i hb j hb' h2 h4 hne b (vK i hb b h2 f1) (vK j hb' b h4 f2)
   ·rcases nY i hb hi with ⟨i1,hb1,rfl,h2,rfl⟩|rfl|⟨h1,h2⟩
    ·exact hHO'.vG i1 hb1 b h2 (newF i1 hb1 b h2 f1) f2
    ·exact xk f1
    ·have q0:=vK i hb b h2 f1;obtain⟨q1,q2⟩:=oldN i hb b h1 h2 q0;rcases(hS' b f2).2 with q3|q3|q3
     ·exact hS.heap.vG i hb b h2 q0 q3
     ·exact q1 q3
     ·omega
   ·rcases nY i hb hi with ⟨i1,hb1,rfl,h2,rfl⟩|rfl|⟨h1,h2⟩
    ·rcases hHT b ⟨i1,hb1,h2,newF i1 hb1 b h2 f1⟩with q3|q3
     ·exact QJ b q3
     ·exact .inr au
    ·exact absurd f1 xk
    ·exact hS.low i hb b h2 (vK i hb b h2 f1)
   ·obtain⟨q1,q2⟩:=hS' b hb;refine⟨q1,?_⟩;rcases q2 with q2|q2|q2
    ·exact(hS.S b q2).2
    ·exact .inr (QJ b q2)
    ·exact .inr (.inr au)
   ·refine⟨hmod.os.trans hS.mod.os,hmod.tape.trans hS.mod.tape,hmod.output.trans hS.mod.output,Nat.le_trans hS.mod.size hmod.size,fun k hk hn=>(hmod.block k au fun e=>?_).trans (hS.mod.block k hk hn)⟩
    rcases QJ k e with q|q
    ·exact hn q
    ·omega
   ·have hp:ids[i]?=C.Ec[i]?:=hS.pre i hi;rw [<- hp]
    have hlt:i<ids.length:=by
      by_cases hl:i<ids.length
      ·exact hl
      ·rw [List.getElem?_eq_none au]at hp
       have:=List.getElem?_eq_none_iff.1 hp.symm;have:=hS.n0;simp only [Ws]at hi;omega
    rw [List.getElem?_append_left hlt]
 exact⟨_,S',_,hout.put hd hfr (Den.ren hrr2 s hden),k3⟩
theorem callI_ok (hS:Sat C σ m ids a) (jF:C.G=E.G) (hd:o7 d C.N=true) (hfr:fresh σ d=true) {f:FuncId} {args:List SV} {vs:List Value} {ic:Ic} (hic:Wz E ic) {g:List SV->St->(SV->St->Prop)->Prop} (hg:ic f=some g) (hv:aC m ids args vs)
   (h:g args σ fun s σ'=>kV (eX { σ with heap:=σ'.heap,nb:=σ'.nb } d s) K) :
   dA E.P f/\Calls E.P f vs.toArray m.w fun e w'=>∃ v,e=.returned v/\Out C K (a.put d v) w':=by
 have hG:lU E.G m:=jF▸hS.oH;obtain⟨hfn,hc⟩:=hic f g hg args σ _ m ids vs hG (fun b hb=>(hS.S b hb).1) hS.len hS.heap hv h
 refine⟨hfn,hc.mono fun e w' ⟨v,S',aO,s,σ',he,hK,hmod,hle,hS',hpre,hln,hHO,hHT,hden⟩=>⟨v,he,?_⟩⟩
 rw [iL]at hK;have hlen:=hS.len;have hsz:=hS.mod.size;have QJ:∀ b,HT ids σ.heap b->C.T0 b\/C.w0.heap.size<=b:=fun b ⟨i,hb,hi,hf⟩=>hS.low i hb b hi hf
 have hll:ids.length<=aO.length:=by
   by_cases h0:ids.length=0
   ·omega
   ·have h1:=hpre (ids.length-1) au
    rw [bZ (l:=ids) au]at h1
    have:=(List.getElem?_eq_some_iff.1 h1).1;omega
 have happ:aO=ids++aO.drop ids.length:=by
   apply List.ext_getElem?;intro i
   by_cases hi:i<ids.length
   ·rw [hpre i au,List.getElem?_append_left hi]
   ·rw [List.getElem?_append_right au,List.getElem?_drop]
    congr 1
    omega
 have hF:SatF C σ ⟨w',S'⟩ aO a:=by
   rw [happ];exact(hS.toSatF.le hle).app _
 have hout:Sat C { σ with heap:=σ'.heap,nb:=σ'.nb } ⟨w',S'⟩ aO a:=by
   refine⟨⟨hln,hHO,fun i hb b hi f1=>?_,fun b hb=>(hle.S b (hS.S0 b hb)).1,fun b hb=>?_,?_,hS.oH.le hle,hS.n0,fun i hi=>?_⟩,hF.of rfl rfl rfl⟩
   ·rcases hHT b ⟨i,hb,hi,f1⟩with q|q
    ·exact QJ b q
    ·exact .inr au
   ·obtain⟨q1,q2⟩:=hS' b hb;refine⟨q1,?_⟩;rcases q2 with q2|q2|q2
    ·exact(hS.S b q2).2
    ·exact .inr (QJ b q2)
    ·exact .inr (.inr au)
   ·refine⟨hmod.os.trans hS.mod.os,hmod.tape.trans hS.mod.tape,hmod.output.trans hS.mod.output,Nat.le_trans hS.mod.size hmod.size,fun k hk hn=>(hmod.block k au fun e=>?_).trans (hS.mod.block k hk hn)⟩
    rcases QJ k e with q|q
    ·exact hn q
    ·omega
   ·have hp:ids[i]?=C.Ec[i]?:=hS.pre i hi;rw [<- hp]
    have hlt:i<ids.length:=by
      by_cases hl:i<ids.length
      ·exact hl
      ·rw [List.getElem?_eq_none au]at hp
       have:=List.getElem?_eq_none_iff.1 hp.symm;have:=hS.n0;have hi:i<σ.n0:=hi;omega
    exact hpre i au
 exact⟨_,S',_,hout.put hd hfr hden,hK⟩
theorem callA_ok (hS:Sat C σ m ids a) (jF:C.G=E.G) (hd:o7 d C.N=true) (hfr:fresh σ d=true) {f:FuncId} {args:List SV} {vs:List Value} {ic:Ic} (hic:Wz E ic) (hv:aC m ids args vs) (h:callA E ic σ d f args K) :
   dA E.P f/\Calls E.P f vs.toArray m.w fun e w'=>∃ v,e=.returned v/\Out C K (a.put d v) w':=by
 unfold callA at h;split at h
 ·rename_i g hg;exact callI_ok hS jF hd hfr hic hg hv h
 ·rcases h with h|⟨fs,h⟩
  ·exact O0 hS jF hd hfr hv h
  ·obtain⟨S',hle,hS'⟩:=hS.oZ fs
   have VT:fresh (oZ σ fs) d=true:=by
     have e:=ql (l:=fs) (σ:=σ);unfold fresh at hfr ⊢;rw [e.1,e.2];exact hfr
   exact O0 hS' jF hd VT (KU hS' (aC.le hle _ hv)) h
end
section
variable {E:En} {C:Cx} {σ:St} {m:Mm} {ids:List Value} {a:Act} {π:Path} {d:Option Tmp} {ty:TypeId} {pos:String} {af:Array Edge} {g:Option (Nat×Bool)} {K:St->Prop}
theorem holds_nil:Holds a []:=fun _ hg=>by cases hg
theorem I6 {P:Program} {T:TypeId} {b o:Nat} {v:Value} {w:World} (ht:Flat P T) (hc:w.cell? ⟨b,o,none⟩=some v):(loadVar T ⟨b,o,none⟩).run P w=.ok v w:=by
 unfold Flat at ht
 have hagg:(isAgg T).run P w=.ok false w:=by
   cases hu:P.underlying T with
   |none=>rw [hu]at ht;cases ht
   |some D =>
     rw [hu]at ht;cases D<;>first|(cases ht;done)|simp [isAgg,run_underlying hu]
 simp [loadVar,hagg,hc]
theorem Au {P:Program} {T:TypeId} {b o:Nat} {vs:List Value} {w:World} (ht:RG P T vs.length) (hc:At w b o vs):(loadVar T ⟨b,o,none⟩).run P w=.ok (.agg vs.toArray) w:=by
 have hr:=nS (P:=P) w b o vs hc;unfold RG at ht
 have hagg:(isAgg T).run P w=.ok true w/\(sizeOf T).run P w=.ok vs.length w:=by
   cases hu:P.underlying T with
   |none=>rw [hu]at ht;cases ht
   |some D =>
     rw [hu]at ht
     cases hi:P.info? T with
     |none=>rw [hi]at ht;cases D<;>cases ht
     |some i=>rw [hi]at ht;cases D<;>first|(cases ht;done)|(simp at ht;simp [isAgg,run_underlying hu,sizeOf,typeInfo,hi,ht])
 simp [loadVar,hagg.1,hagg.2,hr]
theorem Kt {w0:World} {cs:List SV} {us:List Value} {b o:Nat} {T:TypeId} {s:SV} (hc:aC m ids cs us) (_hat:At w0 b 0 us) (h:lq E T cs o=.ok s):∃ v,Den m ids s v/\∀ w,At w b 0 us->(loadVar T ⟨b,o,none⟩).run E.P w=.ok v w:=by
 unfold lq at h
 cases hk:zP E T with
 |bad=>rw [hk]at h;cases h
 |flat =>
   rw [hk]at h;simp only at h;split at h
   ·rename_i s' hn;cases h;rw [pE]at hn;obtain⟨u,h1,h2⟩:=hc.get hn;refine⟨u,h2,fun w hat=>?_⟩
    have:=hat o u h1;rw [Nat.zero_add]at this;exact I6 (Ew hk) this
   ·cases h
 |agg k =>
   rw [hk]at h;simp only at h;split at h
   ·rename_i hl;cases h
    have hl':(us.drop o |>.take k).length=k:=by
      have h1:=dI hl;rw [len_eq,Jy,Kq]at h1;have:=(aC.take k (aC.drop o hc)).length;rw [this,h1]
    have hd:=aC.take k (aC.drop o hc);rw [Jy,Kq];refine⟨.agg ((us.drop o).take k).toArray,by rw [Den];exact⟨_,rfl,hd⟩,fun w hat=>Au (by rw [hl'];exact CU hk) ?_⟩
    intro j v hj;rw [List.getElem?_take]at hj;split at hj
    ·rw [List.getElem?_drop]at hj;have:=hat _ _ hj;rw [Nat.zero_add]at this;exact this
    ·cases hj
   ·cases h
theorem Tm (hS:SatH C σ m ids) {i:Nat} {T:TypeId} {s:SV} {u:Value} (hd:Den m ids (.loc i 0) u) (h:G7 E σ T (.loc i 0)=.ok s):∃ b v,u=.pointer (some ⟨b,0,none⟩)/\Den m ids s v/\∀ w,Ext m.w w->(loadVar T ⟨b,0,none⟩).run E.P w=.ok v w:=by
 rw [Den]at hd;obtain⟨b,hid,rfl⟩:=hd;simp only [G7]at h;split at h
 ·rename_i T' cs hl;obtain⟨b',vs,h1,h2,h3⟩:=hS.heap.sat i _ hl;rw [hid]at h1;cases h1;obtain⟨v,h4,h5⟩:=Kt h3 h2.at h;exact⟨b,v,rfl,h4,fun w hw=>h5 w (u6 h2.at (hw.block b h2.lt))⟩
 ·rename_i T' cs hl;obtain⟨b',vs,h1,h2,h3,_⟩:=hS.heap.sat i _ hl;rw [hid]at h1;cases h1;obtain⟨v,h4,h5⟩:=Kt h3 h2.at h;exact⟨b,v,rfl,h4,fun w hw=>h5 w (u6 h2.at (hw.block b h2.lt))⟩
 ·rename_i T' N c l hl;split at h
  ·rename_i k hk _;split at h
   ·rename_i hkk;cases h;have hkk:=dI hkk;obtain⟨b',bC,h1,h2,h3,h4⟩:=hS.heap.sat i _ hl;rw [hid]at h1;cases h1;refine⟨b,.agg bC.flatten.toArray,rfl,by rw [Den];exact⟨bC,rfl,h3,h4⟩,fun w hw=>Au ?_ (u6 h2.at (hw.block b h2.lt))⟩
    rw [h3.flat,h4,<- hkk];exact CU hk
   ·cases h
  ·cases h
 ·cases h
theorem FP {P:Program} {ro:Operand} {n:String} {Us:Array Operand} {ts:Array TypeId} {t:TypeId} {u v:Value} {ls:List Value} {f:FuncId} {w:World} (e1:a.eval ro=.iface t u) (e3:Us.map a.eval=ls.toArray) (hf:dA P f)
   (hm:(method (P.types.size+Made.depth) t u n).run P w=.ok (f,v) w):(execOp a.eval ⟨d,.call ⟨.invoke ro n,Us,ts⟩,ty,pos,af,g⟩).run P w=.ok (.enter f (v::ls).toArray) w:=by
 unfold dA at hf
 cases hfn:P.funcs[f]? with
 |none=>rw [hfn]at hf;cases hf
 |some fn =>
   rw [hfn]at hf;simp only [Bool.and_eq_true,Bool.not_eq_true']at hf;obtain⟨h1,h2⟩:=hf;have h3:fn.body≠none:=by intro e;rw [e]at h2;cases h2
   have h4:fn.name ≠ "runtime.NumGoroutine" := by simpa using h1
   simp [execOp,resolve,invoke,callMethod,callFunc,e1,e3,hm,hfn,h3,h4]
theorem D5 (hS:Sat C σ m ids a) (hG:lU E.G m) (hh:Holds a π) {c:Call} {f:FuncId} {args:List SV} (h:callee E σ π c=some (f,args)) :
   ∃ vs,aC m ids args vs/\(dA E.P f->∀ w,Ext m.w w->(execOp a.eval ⟨d,.call c,ty,pos,af,g⟩).run E.P w=.ok (.enter f vs.toArray) w):=by
 unfold callee at h;split at h
 ·rename_i fo hc;split at h
  ·rename_i f' x y l he hl;cases h;obtain⟨v,h1,_,h2⟩:=hS.toSatF.ev hG hh he;obtain⟨ls,h3,h4⟩:=hS.toSatF.evs hG hh hl;rw [Den]at h2;obtain⟨us,vs,rfl,h5,h6⟩:=h2;refine⟨us++(ls++vs),h5.append (h4.append h6),fun hf w _=>?_⟩
   obtain⟨callee,args,ts⟩:=c;simp only at hc;subst hc;have hr:=sF (P:=E.P) (d:=d) (ty:=ty) (pos:=pos) (af:=af) (g:=g) (ts:=ts) (aR a) hf h1 h3 w;rw [hr];simp
  ·cases h
 ·rename_i ro n hc;obtain⟨callee,Us,ts⟩:=c;simp only at hc;subst hc;split at h
  ·rename_i t x l he hl;obtain⟨v,_,e1,h2⟩:=hS.toSatF.ev hG hh he;obtain⟨ls,h3,h4⟩:=hS.toSatF.evs hG hh hl;have e3:Us.map a.eval=ls.toArray:=Array.ext' (by simpa using (aR a).evs h3)
   rw [Den]at h2;obtain⟨u,rfl,h5⟩:=h2;split at h
   ·rename_i f' hM;cases h;refine⟨u::ls,by rw [aC];exact⟨u,ls,rfl,h5,h4⟩,fun hf w _=>FP e1 e3 hf (E.hM _ _ _ _ hM u w)⟩
   ·rename_i f' T hM;split at h
    ·rename_i i;split at h
     ·rename_i s hs;cases h;obtain⟨b,v,rfl,k1,k2⟩:=Tm hS.toSatH h5 hs;exact⟨v::ls,by rw [aC];exact⟨v,ls,rfl,k1,h4⟩,fun hf w hw=>FP e1 e3 hf (E.hM _ _ _ _ hM b v w (k2 w hw))⟩
     ·cases h
    ·cases h
   ·cases h
  ·cases h
 ·cases h
theorem Ra {P:Program} {v:Value} {w:World} {r:Result Next} {Q:Value->World->Prop} (h:kD P v w r) (hQ:∀ w',Ext w w'->Q v w'):jJ P (fun u w'=>Ext w w'/\Q u w') r:=by
 cases r with
 |ok n w' =>
   cases n<;>simp only [kD]at h<;>simp only [jJ]
   case value u=>obtain⟨rfl,h1⟩:=h;exact⟨h1,hQ _ h1⟩
   case skip=>obtain⟨h0,h1⟩:=h;rw [<- h0];exact⟨h1,hQ _ h1⟩
   case enter f args =>
     obtain⟨rfl,h1⟩:=h;exact h1.mono fun e w'' ⟨h2,h3⟩=>⟨v,h2,h3,hQ _ h3⟩
 |halt x w'=>simp only [kD]at h
theorem L9 (hS:Sat C σ m ids a) (hG:lU E.G m) (hd:o7 d C.N=true) (hfr:fresh σ d=true) {op:BinOp} {T ty2:TypeId} {x y:Operand} {s:SV} {e:Bool} {P:Prop}
   (hx:σ.ev E [] x=some s) (hy:σ.ev E [] y=some (.v (.slice none 0 0))) (hP:∀ u,Den m ids s u->∃ ad n cp,u=.slice ad n cp/\(ad.isNone=true->P)) (he:Bj op=some e) (hn:Mt (Gz E e T (some true))=false) (h:∀ b:Bool,(b=true->P)->K (eX σ d (.b (Nj e b)))):I4 E C K a m.w ⟨d,.binOp op T x y ty2,ty,pos,af,g⟩:=by
 have hh:Holds a []:=holds_nil;obtain⟨u,h1,_,h2⟩:=hS.toSatF.ev hG hh hx;obtain⟨v,h3,_,h4⟩:=hS.toSatF.ev hG hh hy;cases oM h4;obtain⟨b,n,cp,rfl,hb⟩:=hP u h2;have hp:=Es (E:=E) (m:=m) (ids:=ids) (a:=a) (d:=d) (ty:=ty) (pos:=pos) (af:=af) (g:=g) (T:=T) (T':=ty2) (z:=some b.isNone) he h1 h3 rfl
 have hq:Gz E e T (some b.isNone)=.ok (.b (Nj e b.isNone)):=by
   unfold Gz at hn ⊢;split at hn
   ·rename_i hT hz;cases hz;rw [hT]
   ·cases hn
 rw [hq]at hp;obtain⟨v,h5,_,h6⟩:=hp;unfold I4;refine Ra (h6 m.w (Ext.refl _)) fun w' hw'=>?_
 refine⟨_,m.S,ids,(hS.ext hw').put hd hfr (Den.le (Ext.le (S:=m.S) hw' fun b hb=>(hS.S b hb).1) _ h5),h _ hb⟩
theorem nil_lst {z:Option Bool} {c:Nat} {l:Li c} {u:Value} (h2:Den m ids (.aW z c l) u):∃ ad n cp,u=.slice ad n cp/\(ad.isNone=true->l=[]):=by
 obtain⟨b,cp,rfl,_⟩:=JU h2;refine⟨_,_,_,rfl,fun hb=>?_⟩
 rw [Den]at h2;obtain⟨bC,⟨_,hr⟩,_⟩:=h2;rcases hr with ⟨_,h0⟩|⟨b',o,c',h5,_⟩
 ·exact List.eq_nil_of_length_eq_zero h0
 ·cases h5;cases hb
theorem nil_osl (hS:Sat C σ m ids a) {i c:Nat} {T:TypeId} {z:Option Bool} {l:Li c} {u:Value} (hi:lk σ.heap i=some (.arr T z c l)) (h2:Den m ids (.bT i) u):∃ ad n cp,u=.slice ad n cp/\(ad.isNone=true->l=[]):=by
 rw [Den]at h2;obtain⟨v,bC,h3,h4,_⟩:=hS.heap.sat i _ hi;rw [h2.1]at h3;cases h3;rcases h4.reads.2 with ⟨⟨ad,rfl⟩,h0⟩|⟨b',o,c',rfl,_⟩
 ·exact⟨_,_,_,rfl,fun _=>List.eq_nil_of_length_eq_zero h0⟩
 ·exact⟨_,_,_,rfl,fun hb=>by cases hb⟩
theorem nil_sub {i c:Nat} {lo hi:Int} {u:Value} (h2:Den m ids (.sub i c lo hi) u):∃ ad n cp,u=.slice ad n cp/\(ad.isNone=true->lo=hi):=by
 rw [Den]at h2;obtain⟨ad,n,cp,_,h0,h1,h3,h4,_,_,rfl⟩:=h2;refine⟨_,_,_,rfl,fun hb=>?_⟩
 by_cases hn:0<n
 ·obtain⟨b,q,rfl⟩:=h4 hn;split at hb<;>cases hb
 ·omega
theorem lend_ok (hS:Sat C σ m ids a) (hd:o7 d C.N=true) (hfr:fresh σ d=true) {T:TypeId} {i:Nat} {n:Int} {x:Operand} {u:Value} (hx:XK.ev (dO a) x=some u) (hs:Den m ids (.DN i n) u) (h:PN E σ d T i n K):EO E C K a m.w ⟨d,.load T x,ty,pos,af,g⟩:=by
 unfold PN at h;split at h
 ·rename_i T1 T2 c' c ls hk hn0 hi;split at h
  ·rename_i c2 l hes;obtain⟨zT,h1,hden,e1,e2,e3,e4,e5⟩:=hS.zF i;have hs:=hden _ _ hs;rw [Den]at hs;obtain⟨b,q,nn,cp,vs0,hid,p0,p1,rfl⟩:=hs;obtain⟨v,vs,us,q1,q2⟩:=h1.heap.sat i _ hi;obtain⟨rfl,rfl⟩:=xY hid q1;obtain⟨_,_,en,_⟩:=q2.out.reads.len;have hnn:nn=ls.length:=by cases en;rfl
   subst hnn;have hlt:n.toNat<ls.length:=by omega
   obtain⟨u0,r1,r2,_⟩:=q2.row n.toNat _ (bZ hlt) (fun _ _ e=>by cases e)
   obtain⟨b',q',cp',e6,_,_,hat⟩:=q2.out.reads.has au
   cases e6;refine I4.b ?_;unfold I4;refine Ra (M6.load (wc:=m.w) (Ew hk) hx (hat _ u0 r2) a _ (aR a) m.w (Ext.refl _)) fun w' hw'=>?_
   obtain⟨aO,u1,v1,vs1,us1,k1,k2,k3,k4,k5⟩:=(h1.ext hw').lend (j:=σ.nb) e4.symm (by rw [e5];exact Nat.le_of_ble_eq_true hn0) hi p0 hlt hes
   have hu1:u1=u0:=by
     obtain⟨rfl,_⟩:=xY k1 hid;have r9:=k2.reads;obtain⟨b2,q2',cp2,e7,_,_,aag⟩:=r9.has au
     cases e7;have a1:=aag _ u1 k3;have a2:=hat _ u0 r2;have hbl:=LU (b:=b) q2.out rfl;rw [World.cell?_of_block (w:=m.w) (w':=w') (a:=⟨b,q+n.toNat,none⟩) (hw'.block b hbl)]at a1;rw [a2]at a1;exact(Option.some.inj a1).symm
   subst hu1;exact⟨_,m.S,aO,k5.put hd (by unfold fresh at hfr ⊢;simp only [j3,setH];rw [e2,e3];exact hfr) k4,h⟩
  ·cases h
 ·cases h
theorem uh.le {m m':Mm} (hm:m.le m'):∀ {ps:List (Nat×SV)} {vs:List (Nat×Value)},uh m ids ps vs->uh m' ids ps vs
 |[],_,h=>by rw [uh]at h ⊢;exact h
 |(i,s)::r,_,h=>by rw [uh]at h ⊢;obtain⟨v,vs',h1,h2,h3⟩:=h;exact⟨v,vs',h1,Den.le hm s h2,uh.le hm h3⟩
theorem RL {m:Mm} {σ:St} (hS:Sat C σ m ids a):∀ {ps:List (Nat×SV)} {vs:List (Nat×Value)},uh m ids ps vs->uh m ids (vwP σ ps) vs
 |[],_,h=>by rw [vwP];exact h
 |(i,s)::r,_,h=>by rw [vwP];rw [uh]at h ⊢;obtain⟨v,vs',h1,h2,h3⟩:=h;exact⟨v,vs',h1,BI hS h2,RL hS h3⟩
theorem Xb {ic:Ic} {k:Nat} (hic:Wz E ic) (hS:Sat C σ m ids a) (jF:C.G=E.G) (hd:o7 d C.N=true) (hfr:fresh σ d=true) {o:Op} (h:vcL E ic k σ d o K) :
   EO E C K a m.w ⟨d,o,ty,pos,af,g⟩/\(k=2->kL 2 o=true->I4 E C K a m.w ⟨d,o,ty,pos,af,g⟩):=by
 have hG:lU E.G m:=jF▸hS.oH;have hh:Holds a []:=holds_nil;have both:∀ {o:Op},I4 E C K a m.w ⟨d,o,ty,pos,af,g⟩->EO E C K a m.w ⟨d,o,ty,pos,af,g⟩/\(k=2->kL 2 o=true->I4 E C K a m.w ⟨d,o,ty,pos,af,g⟩):=fun h=>⟨h.b,fun _ _=>h⟩
 unfold vcL at h;split at h
 ·exact both (alloc_ok (ic:=ic) (k:=k) hS hd hfr h)
 ·exact both (box_ok (ic:=ic) (k:=k) hS hG hd hfr h)
 ·refine⟨?_,fun _ h=>by cases h⟩
  split at h
  ·rename_i p s hp hs;obtain⟨u,h1,_,h2⟩:=hS.toSatF.ev hG hh hp;obtain⟨v,h3,_,h4⟩:=hS.toSatF.ev hG hh hs;exact XF hS hd hfr h1 h3 h2 h4 h
  ·cases h
 ·refine⟨?_,fun _ h=>by cases h⟩
  split at h
  ·rename_i i n hp;obtain⟨u,h1,_,h2⟩:=hS.toSatF.ev hG hh hp;exact lend_ok hS hd hfr h1 h2 h
  ·cases h
 ·split at h
  ·rename_i n k hp hs;obtain⟨u,h1,_,h2⟩:=hS.toSatF.ev hG hh hp;obtain⟨v,h3,_,h4⟩:=hS.toSatF.ev hG hh hs;rw [Den]at h2 h4;obtain⟨rfl,_⟩:=h2;obtain⟨rfl,_⟩:=h4;exact both (make_ok hS hd hfr h1 h3 h)
  ·cases h
 ·split at h
  ·rename_i l hl;obtain⟨vs,h1,h2⟩:=hS.toSatF.kU hG hh hl;split at h
   ·obtain⟨S',q1,q2⟩:=hS.oZ (frP σ l);have VT:fresh (oZ σ (frP σ l)) d=true:=by unfold fresh at hfr ⊢;rw [ql.1,ql.2];exact hfr
    exact both (Wd (m:=⟨m.w,S'⟩) q2 hd VT h1 (RL q2 (uh.le q1 h2)) h)
   ·exact both (Wh hS hd hfr h1 h2 h)
  ·cases h
 ·exact both (map_ok hS hd hfr h)
 ·refine⟨?_,fun _ h=>by cases h⟩
  split at h
  ·rename_i p k s hp hk hs;obtain⟨u,h1,_,h2⟩:=hS.toSatF.ev hG hh hp;obtain⟨v,h3,_,h4⟩:=hS.toSatF.ev hG hh hk;obtain⟨q,h5,_,h6⟩:=hS.toSatF.ev hG hh hs;exact(Ym hS hd hfr h1 h3 h5 h2 (vX h4) (vX h6) h).1
  ·cases h
 ·refine⟨?_,fun _ h=>by cases h⟩
  split at h
  ·rename_i p k s hp hk hs;obtain⟨u,h1,_,h2⟩:=hS.toSatF.ev hG hh hp;obtain⟨v,h3,_,h4⟩:=hS.toSatF.ev hG hh hk;obtain⟨q,h5,_,h6⟩:=hS.toSatF.ev hG hh hs;exact(Ym hS hd hfr h1 h3 h5 h2 (vX h4) (vX h6) h).2
  ·cases h
 ·split at h
  ·rename_i s hst hs;obtain⟨u,h1,_,h2⟩:=hS.toSatF.ev hG hh hs;rcases h with h|h
   ·exact both (bytes_ok hS hd hfr hst h1 h2 h)
   ·exact both (V9 hS hd hfr hst h1 h2 h)
  ·rename_i s hst hs;obtain⟨u,h1,_,h2⟩:=hS.toSatF.ev hG hh hs;split at h
   ·cases h
   ·rename_i hk;exact⟨mark_ok hS hd hfr h1 h2 h,fun e=>by subst e;simp at hk⟩
  ·cases h
 ·refine⟨?_,fun _ h=>by cases h⟩
  rename_i xs ts;split at h
  ·rename_i x y T U hx hT;split at h
   ·rename_i p s hp hs hTU;have hTU:=dI hTU;subst hTU;have e1:xs = #[x,y]:=Array.ext' (by simpa using hx)
    have e2:ts = #[T,T]:=Array.ext' (by simpa using hT)
    subst e1 e2;obtain⟨u,h1,_,h2⟩:=hS.toSatF.ev hG hh hp;obtain⟨v,h3,_,h4⟩:=hS.toSatF.ev hG hh hs;obtain⟨aO,q1,q2,q3,q4,_⟩:=x9 hS h2;exact Wn (m:=m) q1 hd (by unfold fresh at hfr ⊢;rw [q3,q4];exact hfr) h1 h3 q2 (fun c l2 hl=>KX hS hl h4) h
   ·rename_i p t hp hs hTU;split at h
    ·rename_i hst;have e1:xs = #[x,y]:=Array.ext' (by simpa using hx)
     have e2:ts = #[T,U]:=Array.ext' (by simpa using hT)
     subst e1 e2;obtain⟨u,h1,_,h2⟩:=hS.toSatF.ev hG hh hp;obtain⟨v,h3,_,h4⟩:=hS.toSatF.ev hG hh hs;obtain⟨aO,q1,q2,q3,q4,_⟩:=x9 hS h2;rw [Den]at h4;exact Ir (m:=m) q1 hd (by unfold fresh at hfr ⊢;rw [q3,q4];exact hfr) h1 h3 q2 (fun _ _ _=>.inl ⟨uR hst,h4.1⟩) h
    ·cases h
   ·rename_i p n hp hs hTU;have e1:xs = #[x,y]:=Array.ext' (by simpa using hx)
    have e2:ts = #[T,U]:=Array.ext' (by simpa using hT)
    subst e1 e2;obtain⟨u,h1,_,h2⟩:=hS.toSatF.ev hG hh hp;obtain⟨v,h3,_,h4⟩:=hS.toSatF.ev hG hh hs;obtain⟨aO,q1,q2,q3,q4,_⟩:=x9 hS h2;rw [Den]at h4;change BK E _ d T U _ n K at h;unfold BK at h;split at h
    ·rename_i e0 i0 he0;split at h
     ·rename_i hU hz;obtain⟨⟨h0⟩,h⟩:=h;have hsz:(zB n.toNat).size=n.toNat:=by show(Array.mk (List.replicate n.toNat 0)).size=_;simp
      refine Ir (m:=m) q1 hd (by unfold fresh at hfr ⊢;rw [q3,q4];exact hfr) h1 h3 q2 (fun e i he=>.inr ⟨fK hU,?_,au,?_,fun b hb=>List.eq_of_mem_replicate hb⟩) h
      ·rw [h4.1,hsz,Int.toNat_of_nonneg au]
      ·rw [he0]at he;cases he;exact hz
     ·cases h
    ·cases h
   ·cases h
  ·cases h
 ·refine⟨?_,fun _ h=>by cases h⟩
  rename_i xs ts;split at h
  ·rename_i x y T U hx hT;split at h
   ·rename_i p s hp hs;have e1:xs = #[x,y]:=Array.ext' (by simpa using hx)
    have e2:ts = #[T,U]:=Array.ext' (by simpa using hT)
    subst e1 e2;obtain⟨u,h1,_,h2⟩:=hS.toSatF.ev hG hh hp;obtain⟨v,h3,_,h4⟩:=hS.toSatF.ev hG hh hs;split at h
    ·exact copyS_ok hS hd hfr h1 h3 h2 h4 h
    ·exact copy_ok hS hd hfr h1 h3 h2 h4 h
    ·cases h
   ·cases h
  ·cases h
 ·refine⟨?_,fun _ h=>by cases h⟩
  rename_i xs ts;split at h
  ·rename_i x T hx hT;split at h
   ·rename_i p hp;have e1:xs = #[x]:=Array.ext' (by simpa using hx)
    have e2:ts = #[T]:=Array.ext' (by simpa using hT)
    subst e1 e2;obtain⟨u,h1,_,h2⟩:=hS.toSatF.ev hG hh hp;exact clear_ok hS hd hfr h1 h2 h
   ·cases h
  ·cases h
 ·refine⟨?_,fun _ h=>by cases h⟩
  rename_i c _ _;split at h
  ·rename_i f args hc;obtain⟨vs,h1,h2⟩:=D5 (d:=d) (ty:=ty) (pos:=pos) (af:=af) (g:=g) hS hG hh hc;obtain⟨h3,h4⟩:=callA_ok hS jF hd hfr hic h1 h;unfold EO;rw [h2 h3 _ (Ext.refl _)];exact h4
  ·cases h
 ·split at h
  ·rename_i z c l hx hy;split at h
   ·rename_i e he;split at h
    ·rename_i hn;exact both (L9 hS hG hd hfr hx hy (fun u hu=>nil_lst hu) he hn h)
    ·cases h
   ·cases h
  ·rename_i i hx hy;split at h
   ·rename_i T' z c l e hi he;split at h
    ·rename_i hn;exact both (L9 hS hG hd hfr hx hy (fun u hu=>nil_osl hS hi hu) he hn h)
    ·cases h
   ·cases h
  ·rename_i i c lo hi hx hy;split at h
   ·rename_i e he;split at h
    ·rename_i hn;exact both (L9 hS hG hd hfr hx hy (fun u hu=>nil_sub hu) he hn h)
    ·cases h
   ·cases h
  ·cases h
 ·cases h
section
variable {m m':Mm} {ids aO:List Value}
mutual
theorem Df:∀ (s:SV) {v v':Value},gv s=true->Den m ids s v->Den m' aO s v'->v=v'
 |.i n,v,v',_,h,h'=>by rw [Den]at h h';rw [h.1,h'.1]
 |.b n,v,v',_,h,h'=>by rw [Den]at h h';rw [h,h']
 |.w8 n,v,v',_,h,h'=>by rw [Den]at h h';rw [h,h']
 |.w32 n,v,v',_,h,h'=>by rw [Den]at h h';rw [h,h']
 |.jg n,v,v',_,h,h'=>by rw [Den]at h h';rw [h,h']
 |.str n,v,v',_,h,h'=>by rw [Den]at h h';rw [h.1,h'.1]
 |.jm l,v,v',hg,h,h'=>by
   rw [Den]at h h';obtain⟨us,rfl,h1⟩:=h;obtain⟨us',rfl,h2⟩:=h';rw [zY l (by rw [gv]at hg;exact hg) h1 h2]
 |.agg l,v,v',hg,h,h'=>by
   rw [Den]at h h';obtain⟨us,rfl,h1⟩:=h;obtain⟨us',rfl,h2⟩:=h';rw [zY l (by rw [gv]at hg;exact hg) h1 h2]
 |.un,_,_,h,_,_=>by simp [gv]at h
 |.v _,_,_,h,_,_=>by simp [gv]at h
 |.loc ..,_,_,h,_,_=>by simp [gv]at h
 |.bT _,_,_,h,_,_=>by simp [gv]at h
 |.wN _,_,_,h,_,_=>by simp [gv]at h
 |.DN ..,_,_,h,_,_=>by simp [gv]at h
 |.sub ..,_,_,h,_,_=>by simp [gv]at h
 |.Ah ..,_,_,h,_,_=>by simp [gv]at h
 |.Ag ..,_,_,h,_,_=>by simp [gv]at h
 |.DF ..,_,_,h,_,_=>by simp [gv]at h
 |.av ..,_,_,h,_,_=>by simp [gv]at h
 |.aW ..,_,_,h,_,_=>by simp [gv]at h
 |.fp ..,_,_,h,_,_=>by simp [gv]at h
 |.lH ..,_,_,h,_,_=>by simp [gv]at h
 |.yN ..,_,_,h,_,_=>by simp [gv]at h
 |.nL ..,_,_,h,_,_=>by simp [gv]at h
 |.uo ..,_,_,h,_,_=>by simp [gv]at h
theorem zY:∀ (l:List SV) {us us':List Value},gvL l=true->aC m ids l us->aC m' aO l us'->us=us'
 |[],_,_,_,h,h'=>by rw [h.nil,h'.nil]
 |s::r,us,us',hg,h,h'=>by
   rw [aC]at h h';obtain⟨u,q,rfl,h1,h2⟩:=h;obtain⟨u',q',rfl,h3,h4⟩:=h';rw [gvL]at hg;split at hg
   ·rename_i h0;rw [Df s h0 h1 h3,zY r hg h2 h4]
   ·cases hg
end
end
section
variable {m m':Mm} {ids aO:List Value}
mutual
theorem yE:∀ (s:SV) {v:Value},gv s=true->Den m ids s v->Den m' aO s v
 |.i n,v,_,h=>by rw [Den]at h ⊢;exact h
 |.b n,v,_,h=>by rw [Den]at h ⊢;exact h
 |.w8 n,v,_,h=>by rw [Den]at h ⊢;exact h
 |.w32 n,v,_,h=>by rw [Den]at h ⊢;exact h
 |.jg n,v,_,h=>by rw [Den]at h ⊢;exact h
 |.str n,v,_,h=>by rw [Den]at h ⊢;exact h
 |.jm l,v,hg,h=>by
   rw [Den]at h ⊢;obtain⟨us,rfl,h1⟩:=h;exact⟨us,rfl,zZ l (by rw [gv]at hg;exact hg) h1⟩
 |.agg l,v,hg,h=>by
   rw [Den]at h ⊢;obtain⟨us,rfl,h1⟩:=h;exact⟨us,rfl,zZ l (by rw [gv]at hg;exact hg) h1⟩
 |.un,_,h,_=>by simp [gv]at h
 |.v _,_,h,_=>by simp [gv]at h
 |.loc ..,_,h,_=>by simp [gv]at h
 |.bT _,_,h,_=>by simp [gv]at h
 |.wN _,_,h,_=>by simp [gv]at h
 |.DN ..,_,h,_=>by simp [gv]at h
 |.sub ..,_,h,_=>by simp [gv]at h
 |.Ah ..,_,h,_=>by simp [gv]at h
 |.Ag ..,_,h,_=>by simp [gv]at h
 |.DF ..,_,h,_=>by simp [gv]at h
 |.av ..,_,h,_=>by simp [gv]at h
 |.aW ..,_,h,_=>by simp [gv]at h
 |.fp ..,_,h,_=>by simp [gv]at h
 |.lH ..,_,h,_=>by simp [gv]at h
 |.yN ..,_,h,_=>by simp [gv]at h
 |.nL ..,_,h,_=>by simp [gv]at h
 |.uo ..,_,h,_=>by simp [gv]at h
theorem zZ:∀ (l:List SV) {us:List Value},gvL l=true->aC m ids l us->aC m' aO l us
 |[],_,_,h=>by rw [h.nil,aC]
 |s::r,us,hg,h=>by
   rw [aC]at h ⊢;obtain⟨u,q,rfl,h1,h2⟩:=h;rw [gvL]at hg;split at hg
   ·rename_i h0;exact⟨u,q,rfl,yE s h0 h1,zZ r hg h2⟩
   ·cases hg
end
end
theorem Sat.grow {w':World} {S':Nat->Prop} (h:Sat C σ m ids a) (he:Ext m.w w') (hle:m.le ⟨w',S'⟩) (hS':∀ b,S' b->b<w'.heap.size/\(m.S b\/m.w.heap.size<=b)):Sat C σ ⟨w',S'⟩ ids a:=by
 have h1:=h.ext he;have hsz:=h.mod.size;refine⟨⟨h.len,h.heap.le hle fun i hb b hi hf=>⟨he.block b (rW (h.heap.sat i hb hi) hf),fun hs=>?_⟩,h.low,fun b hb=>(hle.S b (h.S0 b hb)).1,fun b hb=>⟨(hS' b hb).1,?_⟩,h1.mod,h.oH.le hle,h.n0,h.pre⟩,h.toSatF.le hle⟩
 ·rcases(hS' b hs).2 with q|q
  ·exact h.heap.vG i hb b hi hf q
  ·have:b<m.w.heap.size:=rW (h.heap.sat i hb hi) hf;omega
 ·rcases(hS' b hb).2 with q|q
  ·exact(h.S b q).2
  ·exact .inr (.inr au)
def Wy (E:En) (C:Cx) (σ':St) (m:Mm) (ids:List Value) (a:Act) (o:Oper) (s:SV):Nat->Prop
 |0=>∃ v,Den m ids s v/\∀ w,Ext m.w w->kD E.P v w ((execOp a.eval o).run E.P w)
 |1=>∃ v,Den m ids s v/\∀ w,bf v w ((execOp a.eval o).run E.P w)
 |_+2=>∀ w,Ext m.w w->jJ E.P (fun v w'=>Ext w w'/\∃ S',Sat C σ' ⟨w',S'⟩ ids a/\Den ⟨w',S'⟩ ids s v) ((execOp a.eval o).run E.P w)
theorem VE (hS:Sat C σ m ids a) {o:Oper} {k:Nat} (hk:kP E k o.op=true) {s:SV} (h:iM E m ids a o s):Wy E C σ m ids a o s k:=by
 obtain⟨v,h1,h2,h3⟩:=h
 match k with
 |0=>exact⟨v,h1,h3⟩
 |1=>exact⟨v,h1,h2 (by simpa [kP] using hk)⟩
 |k+2 =>
   intro w hw;refine Ra (h3 w hw) fun w' hw'=>⟨m.S,hS.ext (hw.trans hw'),Den.le (Ext.le (S:=m.S) (hw.trans hw') fun b hb=>(hS.S b hb).1) s h1⟩
theorem iR.imp {r:PR} {Q Q':SV->Prop} (hr:iR r Q) (h:∀ s,Q s->Q' s):iR r Q':=hr.mono h
theorem Yt {ι:Type} {r:PR} {Q:ι->SV->Prop} (i0:ι) (h:∀ i,iR r (Q i)):iR r (fun s=>∀ i,Q i s):=by
 cases r with
 |ok s=>exact h
 |ob p s=>exact fun hp i=>h i hp
 |hy p s=>exact⟨(h i0).1,fun i=>(h i).2⟩
 |hb p q s=>exact⟨(h i0).1,fun hp i=>(h i).2 hp⟩
 |ar p x=>exact⟨(h i0).1,fun i=>(h i).2⟩
 |ap p q x=>exact⟨(h i0).1,fun hp i=>(h i).2 hp⟩
 |no=>exact True.intro
theorem Bd:∀ (DB:List (Fact E)) {f:FuncId} {args:List SV} {r:PR},findF DB f args=r->Mt r=false->∃ F:Fact E,F.f=f/\F.app args=r
 |[],_,_,_,h,hn=>by simp only [findF]at h;subst h;cases hn
 |F::q,f,args,r,h,hn=>by
   simp only [findF]at h;split at h
   ·rename_i hf;have hf:=dI hf;split at h
    ·exact Bd q h hn
    ·exact⟨F,hf,h⟩
   ·exact Bd q h hn
theorem TQ {r:PR} (h:gPR r=true) {Q:SV->Prop} (hr:iR r Q):iR r (fun s=>gv s=true/\Q s):=by
 cases r with
 |ok s=>exact⟨h,hr⟩
 |ob p s=>exact fun hp=>⟨h,hr hp⟩
 |hy p s=>exact⟨hr.1,h,hr.2⟩
 |hb p q s=>exact⟨hr.1,fun hp=>⟨h,hr.2 hp⟩⟩
 |ar p x=>exact⟨hr.1,rfl,hr.2⟩
 |ap p q x=>exact⟨hr.1,fun hp=>⟨rfl,hr.2 hp⟩⟩
 |no=>exact True.intro
theorem Ig {P:Program} {f:FuncId} {args:Array Value} {w:World} {R:Ending->World->Prop} (h:Calls P f args w R):∃ e w',R e w':=by
 obtain⟨e,w',_,hR,_⟩:=h [];exact⟨e,w',hR⟩
theorem OO (hS:Sat C σ m ids a) (jF:C.G=E.G) (hh:Holds a π) {F:Fact E} {c:Call} {args args':List SV} (hc:callee E σ π c=some (F.f,args)) {S':Nat->Prop} (hG:lU E.G ⟨m.w,S'⟩) (hSb:∀ b,S' b->b<m.w.heap.size) (hden:∀ vs,aC m ids args vs->aC ⟨m.w,S'⟩ ids args' vs) :
   ∃ vs:List Value,(∀ w,Ext m.w w->(execOp a.eval (⟨d,.call c,ty,pos,af,g⟩:Oper)).run E.P w=.ok (.enter F.f vs.toArray) w)/\iR (F.app args') fun s=>∀ i:{ w:World // Ext m.w w },Calls E.P F.f vs.toArray i.1 fun e w'=>∃ v S2,e=.returned v/\Ext i.1 w'/\(⟨i.1,S'⟩:Mm).le ⟨w',S2⟩/\(∀ b,S2 b->b<w'.heap.size/\(S' b\/i.1.heap.size<=b))/\Den ⟨w',S2⟩ [] s v:=by
 obtain⟨vs,h1,h2⟩:=D5 (d:=d) (ty:=ty) (pos:=pos) (af:=af) (g:=g) hS (jF▸hS.oH) hh hc;refine⟨vs,h2 F.fn,Yt ⟨m.w,Ext.refl _⟩ fun⟨w,hw⟩=>?_⟩
 have hl:(⟨m.w,S'⟩:Mm).le ⟨w,S'⟩:=Ext.le (S:=S') hw hSb;exact F.ok _ ⟨w,S'⟩ ids vs (hG.le hl) (fun b hb=>Nat.lt_of_lt_of_le (hSb b hb) hw.size) (aC.le hl _ (hden vs h1))
theorem VG (hS:Sat C σ m ids a) (jF:C.G=E.G) (hh:Holds a π) {F:Fact E} {c:Call} {args:List SV} {k:Nat} (hc:callee E σ π c=some (F.f,args)) (hk:kF k (F.app (vwL (oZ σ (Lu σ args)) args))=true)
   {S':Nat->Prop} (hle:m.le ⟨m.w,S'⟩) (hS1:Sat C (oZ σ (Lu σ args)) ⟨m.w,S'⟩ ids a) :
   iR (F.app (vwL (oZ σ (Lu σ args)) args)) fun s=>Wy E C (oZ σ (Lu σ args)) ⟨m.w,S'⟩ ids a ⟨d,.call c,ty,pos,af,g⟩ s k:=by
 obtain⟨vs,h2,key⟩:=OO (d:=d) (ty:=ty) (pos:=pos) (af:=af) (g:=g) hS jF hh hc (jF▸hS1.oH) (fun b hb=>(hS1.S b hb).1) fun vs h1=>KU hS1 (aC.le hle args h1)
 match k with
 |0 =>
   refine(TQ hk key).imp fun s ⟨hg,hall⟩=>?_
   obtain⟨e,w0,v0,S0,_,_,_,_,hd0⟩:=Ig (hall ⟨m.w,Ext.refl _⟩);refine⟨v0,yE s hg hd0,fun w hw=>?_⟩
   rw [h2 w hw];exact⟨rfl,(hall ⟨w,hw⟩).mono fun e w' ⟨v,S2,he,hx,_,_,hd⟩=>⟨by rw [he,Df s hg hd hd0],hx⟩⟩
 |1=>exact absurd hk (by simp [kF])
 |k+2 =>
   refine key.imp fun s hall=>fun w hw=>?_
   rw [h2 w hw];refine(hall ⟨w,hw⟩).mono fun e w' ⟨v,S2,he,hx,hl,hb,hd⟩=>⟨v,he,hx,S2,?_,?_⟩
   ·exact(hS1.ext hw).grow hx hl hb
   ·have:=Den.app (ids:=[]) ids s hd;simpa using this
theorem VF (hS:Sat C σ m ids a) (jF:C.G=E.G) (hh:Holds a π) {F:Fact E} {c:Call} {args:List SV} {k:Nat} (hc:callee E σ π c=some (F.f,args)) (hk:k≠1) (hg0:gPR (F.app (qP (RO σ 4) args))=true) :
   iR (F.app (qP (RO σ 4) args)) fun s=>Wy E C σ m ids a ⟨d,.call c,ty,pos,af,g⟩ s k:=by
 obtain⟨vs,h2,key⟩:=OO (d:=d) (ty:=ty) (pos:=pos) (af:=af) (g:=g) hS jF hh hc (S':=fun b=>m.S b\/HT ids σ.heap b) (jF▸hS.oH.le (Mr hS))
   (fun b hb=>hb.elim (fun q=>(hS.S b q).1) fun⟨i,hb0,h1,h2⟩=>rW (m:=m) (hS.heap.sat i _ h1) h2) fun vs h1=>iV (RN hS 4) h1
 refine(TQ hg0 key).imp fun s ⟨hg,hall⟩=>?_
 match k with
 |0 =>
   obtain⟨e,w0,v0,S0,_,_,_,_,hd0⟩:=Ig (hall ⟨m.w,Ext.refl _⟩);refine⟨v0,yE s hg hd0,fun w hw=>?_⟩
   rw [h2 w hw];exact⟨rfl,(hall ⟨w,hw⟩).mono fun e w' ⟨v,S2,he,hx,_,_,hd⟩=>⟨by rw [he,Df s hg hd hd0],hx⟩⟩
 |1=>exact absurd rfl hk
 |k+2 =>
   intro w hw;rw [h2 w hw];exact(hall ⟨w,hw⟩).mono fun e w' ⟨v,S2,he,hx,hl,hb,hd⟩=>⟨v,he,hx,m.S,hS.ext (hw.trans hx),yE s hg hd⟩
theorem VW {r:PR} (h:Mt (gndR r)=false):gndR r=r/\gPR r=true:=by
 unfold gndR at h ⊢;cases r<;>simp only at h ⊢
 case no=>cases h
 case ar=>exact⟨trivial,rfl⟩
 case ap=>exact⟨trivial,rfl⟩
 all_goals
   split at h
   ·rename_i hg;simp only [hg];exact⟨trivial,hg⟩
   ·cases h
theorem QK {DB:Db E} {k:Nat} {f:FuncId} {args:List SV} (h:Mt (Oi DB σ k f args)=false):k≠1/\∃ F:Fact E,F.f=f/\F.app (qP (RO σ 4) args)=Oi DB σ k f args/\gPR (F.app (qP (RO σ 4) args))=true:=by
 unfold Oi at h ⊢;split at h
 ·rename_i g0 hic;split at h
  ·cases h
  ·rename_i hk;obtain⟨h1,h2⟩:=VW h;have h3:Mt (findF DB.facts f (qP (RO σ 4) args))=false:=by rw [<- h1];exact h
   obtain⟨F,hF,hr⟩:=Bd DB.facts rfl h3;refine⟨hk,F,hF,?_,by rw [hr];exact h2⟩
   rw [h1,hr]
 ·cases h
theorem Sy (hS:Sat C σ m ids a) (jF:C.G=E.G) {DB:Db E} {k:Nat} {o:Oper} {r:PR} {σ':St} (h:Vg E DB σ π k o.op=(r,σ')):∃ S',m.le ⟨m.w,S'⟩/\Sat C σ' ⟨m.w,S'⟩ ids a/\(Holds a π->iR r fun s=>Wy E C σ' ⟨m.w,S'⟩ ids a o s k):=by
 have hG:lU E.G m:=jF▸hS.oH
 have plain:(match kP E k o.op with
     |true=>(evP E σ π o.op,σ)
     |false=>(.no,σ))=(r,σ')->∃ S',m.le ⟨m.w,S'⟩/\Sat C σ' ⟨m.w,S'⟩ ids a/\(Holds a π->iR r fun s=>Wy E C σ' ⟨m.w,S'⟩ ids a o s k):=fun h=>by
   split at h
   ·rename_i hk;cases h;exact⟨m.S,Mm.le.refl m,hS,fun hh=>(evP_ok (d:=o.dst) (ty:=o.type) (pos:=o.pos) (af:=o.after) (g:=o.guard) hS hG hh).imp fun s hs=>VE hS hk hs⟩
   ·cases h;exact⟨m.S,Mm.le.refl m,hS,fun _=>True.intro⟩
 unfold Vg at h;split at h
 ·rename_i c hc;split at h
  ·rename_i f args hcal
   have e:o=⟨o.dst,.call c,o.type,o.pos,o.after,o.guard⟩:=by
     have:o.op=.call c:=by
       unfold callOf at hc;split at hc
       ·rename_i c' hop;cases hc;exact hop
       ·cases hc
     rw [<- this]
   split at h
   ·split at h
    ·cases h;exact⟨m.S,Mm.le.refl m,hS,fun _=>True.intro⟩
    ·rename_i hno;split at h
     ·rename_i hk;cases h;obtain⟨S',h1,h2⟩:=hS.oZ (Lu σ args);refine⟨S',h1,h2,fun hh=>?_⟩
      obtain⟨F,hF,hr⟩:=Bd DB.facts rfl (by cases hq:findF DB.facts f (vwL (oZ σ (Lu σ args)) args)<;>first|exact absurd hq hno|rfl)
      subst hF;rw [<- hr]at hk ⊢;rw [e];exact VG hS jF hh hcal hk h1 h2
     ·cases h;exact⟨m.S,Mm.le.refl m,hS,fun _=>True.intro⟩
   ·rename_i hno;cases h;obtain⟨hk,F,hF,hr,hg⟩:=QK (DB:=DB) (σ:=σ) (k:=k) (f:=f) (args:=args) (by cases hq:Oi DB σ k f args<;>first|exact absurd hq hno|rfl)
    subst hF;refine⟨m.S,Mm.le.refl m,hS,fun hh=>?_⟩
    rw [<- hr,e];exact VF hS jF hh hcal hk hg
  ·exact plain h
 ·exact plain h
end
section
variable {E:En} {C:Cx} {σ:St} {m:Mm} {ids:List Value} {a:Act} {π:Path} {d:Option Tmp} {K:St->Prop} {DB:Db E}
theorem VQ {π ρ:Path}:Holds a (π++ρ)↔Holds a π/\Holds a ρ:=⟨fun h=>⟨fun g hg=>h g (List.mem_append_left _ hg),fun g hg=>h g (List.mem_append_right _ hg)⟩,fun h g hg=>(List.mem_append.1 hg).elim (h.1 g) (h.2 g)⟩
theorem Fx (hS:SatF C σ m ids a) (hh:Holds a π) {t:Nat} {q:Bool} (h:σ.slot π t=some (.b q)):a.tmps.getD t undef=.bool q:=by
 have:=(hS.slot hh h).2;rw [Den]at this;exact this
theorem Jw (hS:SatF C σ m ids a) {p:Prop}:∀ {r pre:Path} {c:Prop},UJ σ pre r c p->c->Holds a pre->Holds a r->p
 |[],_,_,h,hc,_,_=>h hc
 |(t,b)::r,pre,c,h,hc,h1,h2=>by
   rw [UJ]at h;split at h
   ·rename_i q hq;have e1:=Fx hS h1 hq;have e2:=h2 (t,b) (List.mem_cons_self ..);simp only at e2;rw [e1]at e2;have e2:q=b:=Value.bool.inj e2;exact Jw hS h ⟨hc,e2⟩ (nW h1 (by rw [e1,e2])) fun g hg=>h2 g (List.mem_cons_of_mem _ hg)
   ·exact h hc
theorem vW (hS:SatF C σ m ids a) {p:Prop} {pre r:Path} (h:und σ pre r p) (h1:Holds a pre) (h2:Holds a r):p:=by
 cases r with
 |nil=>exact h
 |cons x r =>
   obtain⟨t,b⟩:=x;simp only [und]at h;split at h
   ·rename_i q hq;have e1:=Fx hS h1 hq;have e2:=h2 (t,b) (List.mem_cons_self ..);simp only at e2;rw [e1]at e2;have e2:q=b:=Value.bool.inj e2;exact Jw hS h e2 (nW h1 (by rw [e1,e2])) fun g hg=>h2 g (List.mem_cons_of_mem _ hg)
   ·exact h
theorem Fq (hS:SatF C σ m ids a) {p:Prop}:∀ {r pre:Path} {c:Prop},pok σ pre r=true->(c->Holds a pre)->(c->Holds a r->p)->UJ σ pre r c p
 |[],_,_,_,_,h=>fun hc=>h hc holds_nil
 |(t,b)::r,pre,c,hp,h1,h=>by
   rw [pok]at hp;split at hp
   ·rename_i q hq;rw [UJ,hq];have e1:c/\q=b->a.tmps.getD t undef=.bool b:=fun⟨hc,e⟩=>by rw [Fx hS (h1 hc) hq,e]
    exact Fq hS hp (fun hc=>nW (h1 hc.1) (e1 hc)) fun hc hr=>h hc.1 fun g hg=>by
      rcases List.mem_cons.1 hg with rfl|hg
      ·exact e1 hc
      ·exact hr g hg
   ·cases hp
theorem xW (hS:SatF C σ m ids a) {p:Prop} {pre r:Path} (hp:pok σ pre r=true) (h1:Holds a pre) (h:Holds a r->p):und σ pre r p:=by
 cases r with
 |nil=>exact h holds_nil
 |cons x r =>
   obtain⟨t,b⟩:=x;rw [pok]at hp;split at hp
   ·rename_i q hq;simp only [und,hq];have e1:q=b->a.tmps.getD t undef=.bool b:=fun e=>by rw [Fx hS h1 hq,e]
    exact Fq hS hp (fun hc=>nW h1 (e1 hc)) fun hc hr=>h fun g hg=>by
      rcases List.mem_cons.1 hg with rfl|hg
      ·exact e1 hc
      ·exact hr g hg
   ·cases hp
theorem RV (hS:SatF C σ m ids a) (hp:pok σ [] π=true) {r:PR} {Kp Q:SV->Prop} (h:W9 σ π r Kp) (hr:Holds a π->iR r Q):∃ s,Kp s/\(Holds a π->Q s):=by
 rw [WZ]at h
 cases r with
 |ok s=>exact⟨s,h,hr⟩
 |ob p s=>exact⟨s,h.2,fun hh=>hr hh (vW hS h.1.ok holds_nil hh)⟩
 |hy p s=>exact⟨s,h (xW hS hp holds_nil fun hh=>(hr hh).1),fun hh=>(hr hh).2⟩
 |hb p q s =>
   have h':=h (xW hS hp holds_nil fun hh=>(hr hh).1)
   exact⟨s,h'.2,fun hh=>(hr hh).2 (vW hS h'.1.ok holds_nil hh)⟩
 |ar p x =>
   obtain⟨v,h1,h2⟩:=h (xW hS hp holds_nil fun hh=>(hr hh).1)
   refine⟨.i v,h2,fun hh=>?_⟩
   rw [<- vW hS h1 holds_nil hh];exact(hr hh).2
 |ap p q x =>
   obtain⟨h0,v,h1,h2⟩:=h (xW hS hp holds_nil fun hh=>(hr hh).1)
   refine⟨.i v,h2,fun hh=>?_⟩
   rw [<- vW hS h1 holds_nil hh];exact(hr hh).2 (vW hS h0.ok holds_nil hh)
 |no=>exact h.elim
theorem xk_of {o:Oper} {k:Nat} {σ':St} {s:SV} {K1:St->Prop} (hS:Sat C σ' m ids a) (h:Wy E C σ' m ids a o s k) (hK:∀ S w ids v,Sat C σ' ⟨w,S⟩ ids a->Den ⟨w,S⟩ ids s v->Out C K1 (a.put o.dst v) w) :
   l6 E.P o (fun a w=>Out C K1 a w) a m.w k:=by
 match k with
 |0 =>
   obtain⟨v,h1,h2⟩:=h;exact⟨v,h2,hK m.S m.w ids v hS h1⟩
 |1 =>
   obtain⟨v,h1,h2⟩:=h;exact⟨v,h2,hK m.S m.w ids v hS h1⟩
 |2=>exact fun w hw=>iO (fun v w' ⟨q1,S',q2,q3⟩=>⟨q1,hK S' w' ids v q2 q3⟩) (h w hw)
 |k+3=>exact fun w hw=>iO (fun v w' ⟨q1,S',q2,q3⟩=>hK S' w' ids v q2 q3) (h w hw)
theorem OJ {ns:List Nat}:∀ {σ:St},(oZ σ ns).gen=σ.gen/\(oZ σ ns).kn=σ.kn/\(oZ σ ns).env=σ.env/\(oZ σ ns).nb=σ.nb/\(oZ σ ns).n0=σ.n0:=by
 induction ns with
 |nil=>exact⟨rfl,rfl,rfl,rfl,rfl⟩
 |cons i r ih =>
   intro σ;rw [oZ];split
   ·exact ih (σ:=setH σ i _)
   ·exact ih (σ:=setH σ i _)
   ·exact ih (σ:=setH σ i _)
   ·exact ih
theorem JF {k:Nat} {o:Op} {r:PR} {σ':St} (h:Vg E DB σ π k o=(r,σ')):σ'.gen=σ.gen/\σ'.kn=σ.kn:=by
 unfold Vg at h;split at h
 ·split at h
  ·split at h
   ·split at h
    ·cases h;exact⟨rfl,rfl⟩
    ·split at h
     ·cases h;exact⟨OJ.1,OJ.2.1⟩
     ·cases h;exact⟨rfl,rfl⟩
   ·cases h;exact⟨rfl,rfl⟩
  ·split at h<;>(cases h;exact⟨rfl,rfl⟩)
 ·split at h<;>(cases h;exact⟨rfl,rfl⟩)
theorem Hz {σ':St} (h:σ'.gen=σ.gen/\σ'.kn=σ.kn) (hf:fresh σ d=true):fresh σ' d=true:=by
 unfold fresh at hf ⊢;rw [h.1,h.2];exact hf
theorem PI (hS:Sat C σ m ids a) (jF:C.G=E.G) {k:Nat} {o:Oper} (hd:o7 o.dst C.N=true) (hfr:fresh σ o.dst=true) {K1:St->Prop} (h:vcU E DB k o σ K1):l6 E.P o (fun a w=>Out C K1 a w) a m.w k:=by
 unfold vcU at h;split at h
 ·split at h
  ·rename_i hk
   match k,hk with
   |2,hk =>
     intro w hw;have:=(Xb DB.ok (d:=o.dst) (ty:=o.type) (pos:=o.pos) (af:=o.after) (g:=o.guard) (hS.ext hw) jF hd hfr h).2 rfl hk;exact iO (fun _ _ q=>q) this
   |k+3,hk =>
     intro w hw;have:=(Xb DB.ok (d:=o.dst) (ty:=o.type) (pos:=o.pos) (af:=o.after) (g:=o.guard) (hS.ext hw) jF hd hfr h).1;exact iO (fun _ _ q=>q) this
  ·cases h
 ·rename_i r σ' _ hpr;obtain⟨S',h1,h2,h3⟩:=Sy hS jF hpr;obtain⟨s,h4,h5⟩:=RV hS.toSatF rfl h h3;exact xk_of (m:=⟨m.w,S'⟩) h2 (h5 holds_nil) fun S w ids v q1 q2=>⟨_,S,ids,q1.put hd (Hz (JF hpr) hfr) q2,h4⟩
theorem UE {ops:Array Oper} {j t:Nat} {oj:Oper} (hj:ops[j]?=some oj) (ht:oj.dst=some t) {o:Oper} {b:Bool} (hg:o.guard=some (j,b)):Region.wanted o (yielded ops a.tmps)=true↔a.tmps.getD t undef=.bool b:=by
 have hy:yielded ops a.tmps j=match a.tmps[t]? with
     |some (.bool c)=>some c
     |_=>none:=by
   unfold yielded;rw [hj,Option.bind_some,ht,Option.bind_some]
   cases a.tmps[t]? with
   |none=>rfl
   |some v=>cases v<;>rfl
 simp only [Region.wanted,hg];rw [hy,Array.getD_eq_getD_getElem?]
 cases hq:a.tmps[t]? with
 |none=>simp [undef]
 |some v =>
   cases v<;>simp
theorem Kc (hS:SatF C σ m ids a) {ops:Array Oper} {j:Nat} {b:Bool} {Pp:Path} {o:Oper} (hg:o.guard=some (j,b)) (h:Lp ops σ j b=some Pp):Region.wanted o (yielded ops a.tmps)=true↔Holds a Pp:=by
 unfold Lp at h;split at h
 ·rename_i t _ _ _ _ _ hj;rw [UE hj rfl hg]
  have one:Holds a [(t,b)]↔a.tmps.getD t undef=.bool b:=⟨fun h=>h (t,b) (List.mem_cons_self ..),fun h g hg=>by
    have:g=(t,b):=by simpa using hg
    subst this
    exact h⟩
  split at h
  ·rename_i ρ x hl;cases h;rw [VQ,one];refine⟨fun h=>⟨?_,h⟩,fun h=>h.2⟩
   by_cases hh:Holds a ρ
   ·exact hh
   ·have:=(hS.gen t ρ x hl).2.2 hh;rw [this]at h;simp [undef]at h
  ·cases h;exact one.symm
 ·cases h
def Jo (E:En) (C:Cx) (K1:St->Prop) (ops:Array Oper) (k:Nat) (o:Oper) (a:Act) (w:World):Prop :=
 if Region.wanted o (yielded ops a.tmps)then l6 E.P o (fun a w=>Out C K1 a w) a w k else Out C K1 (a.put o.dst undef) w
theorem Uh:Den m ids SV.und undef:=by rw [Den]
theorem Zz (hS:Sat C σ m ids a) {t:Nat} {q b:Bool} (h:σ.slot [] t=some (.b q)) (e:q=b):Sat C { σ with kn:=(t,b)::σ.kn } m ids a:=by
 refine⟨hS.toSatH.of rfl rfl rfl,hS.size,hS.defers,hS.env,hS.gen,fun s c hs=>?_⟩
 simp only [bG]at hs;split at hs
 ·rename_i e2;cases hs;subst e2;rw [Fx hS.toSatF holds_nil h,e]
 ·exact hS.kn s c hs
theorem PO {k:Nat} {o:Oper} {Pp:Path} {ops:Array Oper} (jF:C.G=E.G) (hd:o7 o.dst C.N=true) (hw:Region.wanted o (yielded ops a.tmps)=true↔Holds a Pp) {K1:St->Prop}:∀ (n:Nat) {σ:St},Sat C σ m ids a->vcG E DB k o Pp n σ K1->Jo E C K1 ops k o a m.w
 |0,_,_,h=>h.elim
 |n+1,σ,hS,h=>by
   rw [vcG]at h;split at h
   ·cases h
   ·rename_i hfr;have hr:=AB (a:=a) (σ:=σ) Pp hS.kn;split at h
    ·rename_i hq;rw [hq]at hr;unfold Jo;rw [if_neg (fun e=>hr (hw.1 e))]
     exact⟨_,m.S,ids,hS.put hd hfr Uh,h⟩
    ·rename_i hq;rw [hq]at hr;unfold Jo;rw [if_pos (hw.2 (hr.2 holds_nil))];exact PI hS jF hd hfr h
    ·rename_i t b r hq;split at h
     ·rename_i q hs
      cases q with
      |true=>exact PO jF hd hw n (Zz hS hs rfl) (h.1 rfl)
      |false=>exact PO jF hd hw n (Zz hS hs rfl) (h.2 rfl)
     ·cases h
theorem RX {k:Nat} {o:Oper} {ops:Array Oper} (hS:Sat C σ m ids a) (jF:C.G=E.G) {K1:St->Prop} (h:vcOp E DB C.N ops k o σ K1):Jo E C K1 ops k o a m.w:=by
 unfold vcOp at h;split at h
 ·cases h
 ·rename_i hfd;rw [Bool.and_eq_true]at hfd;obtain⟨hfr,hd⟩:=hfd;split at h
  ·rename_i hg;unfold Jo;rw [if_pos (by simp [Region.wanted,hg])]
   exact PI hS jF hd hfr h
  ·rename_i j b hg;split at h
   ·cases h
   ·rename_i Pp hp;have hw:=Kc hS.toSatF hg hp;have hr:=AB (a:=a) (σ:=σ) Pp hS.kn;split at h
    ·rename_i hq;rw [hq]at hr;unfold Jo;rw [if_neg (fun e=>hr (hw.1 e))]
     exact⟨_,m.S,ids,hS.put hd hfr Uh,h⟩
    ·rename_i hq;rw [hq]at hr;unfold Jo;rw [if_pos (hw.2 (hr.2 holds_nil))];exact PI hS jF hd hfr h
    ·rename_i π _ hq;rw [hq]at hr;have hw:=hw.trans hr;split at h
     ·rename_i hpk hnp;split at h
      ·exact PO jF hd (Kc hS.toSatF hg hp) _ hS h
      ·rename_i r σ' _ hpr;obtain⟨S',h1,h2,h3⟩:=Sy hS jF hpr;obtain⟨s,h4,h5⟩:=RV hS.toSatF hpk h h3
       have hn:∀ t,o.dst=some t->∀ g∈π,g.1≠t:=fun t ht=>by
         rw [ht]at hnp;exact wQ hnp
       have VT:=Hz (JF hpr) hfr;unfold Jo
       by_cases hh:Holds a π
       ·rw [if_pos (hw.2 hh)];exact xk_of (m:=⟨m.w,S'⟩) h2 (h5 hh) fun S w ids v q1 q2=>⟨_,S,ids,q1.putG hd VT hn (fun _=>q2) (fun hn=>absurd hh hn),h4⟩
       ·rw [if_neg (fun e=>hh (hw.1 e))]
        exact⟨_,S',ids,h2.putG (s:=s) hd VT hn (fun h=>absurd h hh) (fun _=>rfl),h4⟩
     ·cases h
theorem Fg {ops:Array Oper} (jF:C.G=E.G) {kd:Nat->Nat} {K1:St->Prop}:∀ (l:List Nat) {σ:St} {m:Mm} {ids:List Value} {a:Act},Sat C σ m ids a->yP E DB C.N ops kd l σ K1->wpX E.P ops kd (fun a w=>Out C K1 a w) l a m.w
 |[],σ,m,ids,a,hS,h=>fun w hw=>by
   rw [yP,wm]at h;refine⟨_,m.S,ids,?_,h⟩;have h1:=hS.ext hw;exact⟨h1.toSatH.of rfl rfl rfl,h1.size,h1.defers,h1.env,fun t π s hl=>(by cases hl),fun s b hl=>(by cases hl)⟩
 |i::l,σ,m,ids,a,hS,h=>by
   rw [yP]at h;rw [wpX];split at h
   ·rename_i o ho;have h1:=RX hS jF h
    have h2:qw E.P ops kd i (fun a w=>Out C (fun σ'=>thenS σ' fun σ'=>yP E DB C.N ops kd l σ' K1) a w) a m.w:=by
      unfold qw;simp only [ho];unfold Jo at h1;exact h1
    exact eP (fun a w ⟨σ',S,aO,q1,q2⟩=>Fg jF l (m:=⟨w,S⟩) q1 (by have q3:thenS σ' (fun σ'=>yP E DB C.N ops kd l σ' K1):=q2;rw [wm]at q3;exact q3)) h2
   ·cases h
theorem iY {ops:Array Oper} (jF:C.G=E.G) {kd:Nat->Nat} {i:Nat} {K1:St->Prop} (hS:Sat C σ m ids a) (h:sw E DB C.N ops kd i σ K1):qw E.P ops kd i (fun a w=>Out C K1 a w) a m.w:=by
 unfold sw at h;split at h
 ·rename_i o ho;have h1:=RX hS jF h
  have h2:qw E.P ops kd i (fun a w=>Out C (fun σ'=>thenS σ' K1) a w) a m.w:=by
    unfold qw;simp only [ho];unfold Jo at h1;exact h1
  exact eP (fun a w ⟨σ',S,aO,q1,q2⟩=>⟨σ',S,aO,q1,by have q3:thenS σ' K1:=q2;rw [wm]at q3;exact q3⟩) h2
 ·cases h
theorem vcP_ok {ops:Array Oper} (jF:C.G=E.G) {kd:Nat->Nat} {K1:St->Prop}:∀ (p:Plan) (f:Nat) {listed:Array Bool} {σ:St} {m:Mm} {ids:List Value} {a:Act},Closed .any ops listed->Sat C σ m ids a->yL E DB C.N ops kd p f listed σ K1 ->
   AnyX E.P ops .any kd (fun a w=>Out C K1 a w) f listed a m.w:=by
 intro p
 induction p with
 |done =>
   intro f listed σ m ids a hcl hS h;rw [yL,wm]at h;obtain⟨h1,h2⟩:=h;have hr:Region.ready .any ops listed=[]:=List.isEmpty_iff.1 h1
   have fin:∀ w,Ext m.w w->Out C K1 a w:=fun w hw=>by
     have h1:=hS.ext hw;refine⟨{ σ with gen:=[],kn:=[] },m.S,ids,?_,h2⟩
     exact⟨h1.toSatH.of rfl rfl rfl,h1.size,h1.defers,h1.env,fun t π s hl=>(by cases hl),fun s b hl=>(by cases hl)⟩
   cases f with
   |zero=>exact⟨hr,fin⟩
   |succ f=>exact⟨fun _=>fin,fun i hi=>by rw [hr]at hi;cases hi⟩
 |take i p ih =>
   intro f listed σ m ids a hcl hS h
   cases f with
   |zero=>simp [yL]at h
   |succ f =>
     rw [yL]at h;obtain⟨h1,h2⟩:=h;simp only [BX,Bool.and_eq_true]at h1;obtain⟨⟨⟨⟨t1,t2⟩,t3⟩,t4⟩,t5⟩:=h1;have hr:i∈Region.ready .any ops listed:=by simpa using t3
     obtain⟨_,oi,hoi,_⟩:=mem_ready.1 hr;exact Dx t1 hcl hoi (by simpa using t2) t3 t4 t5 (eP (fun a w ⟨σ',S,aO,q1,q2⟩=>ih f (m:=⟨w,S⟩) (hcl.set hr) q1 q2) (iY jF hS h2))
 |one i p ih =>
   intro f listed σ m ids a hcl hS h
   cases f with
   |zero=>simp [yL]at h
   |succ f =>
     rw [yL]at h;obtain⟨h1,h2⟩:=h;have hr:Region.ready .any ops listed=[i]:=by simpa using h1
     refine oU hr (by simp) fun k hk=>?_
     have hki:k=i:=by simpa using hk
     subst hki;exact eP (fun a w ⟨σ',S,aO,q1,q2⟩=>ih f (m:=⟨w,S⟩) (hcl.set (by rw [hr];simp)) q1 q2) (iY jF hS h2)
 |two i p j q ih1 ih2 =>
   intro f listed σ m ids a hcl hS h
   cases f with
   |zero=>simp [yL]at h
   |succ f =>
     rw [yL]at h;obtain⟨h1,h2,h3⟩:=h;have hr:Region.ready .any ops listed=[i,j]:=by simpa using h1
     refine oU hr (by simp) fun k hk=>?_
     have hk2:k=i\/k=j:=by simpa using hk
     rcases hk2 with rfl|rfl
     ·exact eP (fun a w ⟨σ',S,aO,q1,q2⟩=>ih1 f (m:=⟨w,S⟩) (hcl.set (by rw [hr];simp)) q1 q2) (iY jF hS h2)
     ·exact eP (fun a w ⟨σ',S,aO,q1,q2⟩=>ih2 f (m:=⟨w,S⟩) (hcl.set (by rw [hr];simp)) q1 q2) (iY jF hS h3)
 |three i p j q k r ih1 ih2 ih3 =>
   intro f listed σ m ids a hcl hS h
   cases f with
   |zero=>simp [yL]at h
   |succ f =>
     rw [yL]at h;obtain⟨h1,h2,h3,h4⟩:=h;have hr:Region.ready .any ops listed=[i,j,k]:=by simpa using h1
     refine oU hr (by simp) fun n hn=>?_
     have hk2:n=i\/n=j\/n=k:=by simpa using hn
     rcases hk2 with rfl|rfl|rfl
     ·exact eP (fun a w ⟨σ',S,aO,q1,q2⟩=>ih1 f (m:=⟨w,S⟩) (hcl.set (by rw [hr];simp)) q1 q2) (iY jF hS h2)
     ·exact eP (fun a w ⟨σ',S,aO,q1,q2⟩=>ih2 f (m:=⟨w,S⟩) (hcl.set (by rw [hr];simp)) q1 q2) (iY jF hS h3)
     ·exact eP (fun a w ⟨σ',S,aO,q1,q2⟩=>ih3 f (m:=⟨w,S⟩) (hcl.set (by rw [hr];simp)) q1 q2) (iY jF hS h4)
 |four i p j q k r l s ih1 ih2 ih3 ih4 =>
   intro f listed σ m ids a hcl hS h
   cases f with
   |zero=>simp [yL]at h
   |succ f =>
     rw [yL]at h;obtain⟨h1,h2,h3,h4,h5⟩:=h;have hr:Region.ready .any ops listed=[i,j,k,l]:=by simpa using h1
     refine oU hr (by simp) fun n hn=>?_
     have hk2:n=i\/n=j\/n=k\/n=l:=by simpa using hn
     rcases hk2 with rfl|rfl|rfl|rfl
     ·exact eP (fun a w ⟨σ',S,aO,q1,q2⟩=>ih1 f (m:=⟨w,S⟩) (hcl.set (by rw [hr];simp)) q1 q2) (iY jF hS h2)
     ·exact eP (fun a w ⟨σ',S,aO,q1,q2⟩=>ih2 f (m:=⟨w,S⟩) (hcl.set (by rw [hr];simp)) q1 q2) (iY jF hS h3)
     ·exact eP (fun a w ⟨σ',S,aO,q1,q2⟩=>ih3 f (m:=⟨w,S⟩) (hcl.set (by rw [hr];simp)) q1 q2) (iY jF hS h4)
     ·exact eP (fun a w ⟨σ',S,aO,q1,q2⟩=>ih4 f (m:=⟨w,S⟩) (hcl.set (by rw [hr];simp)) q1 q2) (iY jF hS h5)
 |five i p j q k r l s n0 t ih1 ih2 ih3 ih4 ih5 =>
   intro f listed σ m ids a hcl hS h
   cases f with
   |zero=>simp [yL]at h
   |succ f =>
     rw [yL]at h;obtain⟨h1,h2,h3,h4,h5,h6⟩:=h;have hr:Region.ready .any ops listed=[i,j,k,l,n0]:=by simpa using h1
     refine oU hr (by simp) fun n hn=>?_
     have hk2:n=i\/n=j\/n=k\/n=l\/n=n0:=by simpa using hn
     rcases hk2 with rfl|rfl|rfl|rfl|rfl
     ·exact eP (fun a w ⟨σ',S,aO,q1,q2⟩=>ih1 f (m:=⟨w,S⟩) (hcl.set (by rw [hr];simp)) q1 q2) (iY jF hS h2)
     ·exact eP (fun a w ⟨σ',S,aO,q1,q2⟩=>ih2 f (m:=⟨w,S⟩) (hcl.set (by rw [hr];simp)) q1 q2) (iY jF hS h3)
     ·exact eP (fun a w ⟨σ',S,aO,q1,q2⟩=>ih3 f (m:=⟨w,S⟩) (hcl.set (by rw [hr];simp)) q1 q2) (iY jF hS h4)
     ·exact eP (fun a w ⟨σ',S,aO,q1,q2⟩=>ih4 f (m:=⟨w,S⟩) (hcl.set (by rw [hr];simp)) q1 q2) (iY jF hS h5)
     ·exact eP (fun a w ⟨σ',S,aO,q1,q2⟩=>ih5 f (m:=⟨w,S⟩) (hcl.set (by rw [hr];simp)) q1 q2) (iY jF hS h6)
end
end Go.SX
