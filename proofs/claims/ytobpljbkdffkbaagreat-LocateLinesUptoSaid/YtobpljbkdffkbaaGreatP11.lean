/- A part of the proof (texts SO, SP, SQ, SR). -/
import Derived.Test.YtobpljbkdffkbaaGreatP10
set_option linter.all false
set_option maxRecDepth 100000
namespace Go.SX
open Go.XK Go.RowKit
section
variable {E:En} {C:Cx} {σ:St} {m:Mm} {ids:List Value} {a:Act} {d:Option Tmp} {ty:TypeId} {pos:String} {af:Array Edge} {g:Option (Nat×Bool)} {K:St→Prop}
theorem store_vec (hS:Sat C σ m ids a) (hd:dOK d C.N=true) (hfr:fresh σ d=true) {T T':TypeId} {N k i o c:Nat} {n:Int} {l:List (TabT c)} {cs:List SV} {x y:Operand} {s:SV} {u:Value} {v:TabT c} (hk:sizeE E T=some k)
   (hi:lk σ.heap i=some (.vec T' N c l)) (hl:len (cellsOf s)=k) (ho:o+k≤KT c) (h1:allOne (cellsOf s)=true) (hcs:ES c (l.getD n.toNat (TabZ c))=some cs) (hv:DC c (over cs o (cellsOf s))=some v)
   (hx:∃ b,ids[i]?=some (.pointer (some ⟨b,0,none⟩))∧0≤n∧n<N∧XK.ev (envA a) x=some (.pointer (some ⟨b,n.toNat * KT c+o,none⟩))) (hy:XK.ev (envA a) y=some u) (hs:Den m ids s u)
   (hK:K (setE (setH σ i (.vec T' N c (l.set n.toNat v))) d .und)):StB E C K a m.w ⟨d,.store T x y,ty,pos,af,g⟩:=by
 obtain⟨b,hid,hn0,hn1,hx⟩:=hx;obtain⟨b',uss,h2,h3,h4,h5⟩:=hS.heap.sat i _ hi;rw [hid]at h2;cases h2;have hlt:n.toNat<l.length:=by omega
 obtain⟨zz,bb,h7⟩:=sizeE_spec hk;obtain⟨inf,h8,_,h9,_⟩:=h7.ex;have hc:=cellsOf_ok h1 hs;have hlen:=hc.length;rw [len_eq]at hl;rw [Array.length_toList]at hlen;have hfl:=h4.flat
 have hle0:n.toNat * KT c+KT c≤l.length*KT c:=by
   have:=Nat.mul_le_mul_right (KT c) hlt;rw [Nat.succ_mul]at this;exact this
 have hfb:Fp ids i (.vec T' N c l) b:=⟨rfl,_,hid,rfl⟩;refine stB_of (Stp.storeF (T':=T') (old:=uss.flatten) (by rw [h8,Option.map_some,h9];congr 1;omega) hx hy h3 (by rw [hfl];simp;omega) (allOne_spec h1 hc) fun w' hu hr=>?_)
 have hle:=le_upd hS hi hfb hu;obtain⟨us,hus,hdl⟩:=h4.2.2 n.toNat l[n.toNat] (List.getElem?_eq_getElem hlt);have hget:l.getD n.toNat (TabZ c)=l[n.toNat]:=by rw [List.getD_eq_getElem?_getD,List.getElem?_eq_getElem hlt];rfl
 rw [hget]at hcs;have hcells:=(ES_iff (ids:=ids) c _ hcs).1 hdl;have hul:us.length=KT c:=by rw [hdl.len,TD_len]
 have hnew:=DC_ok c hv (over_den hcells hc (by have:=hcells.length;omega))
 refine Out.upd (hb':=.vec T' N c (l.set n.toNat v)) hS hi hu hfb ⟨_,uss.set n.toNat (overV us o u.cells.toList),hid,?_,(h4.set hlt hnew).le hle,by rw [List.length_set];exact h5⟩ (fun b' hf=>fp_ptr (hb:=.gone) hid hf) hd hfr (by rw [Den]) hK
 rw [flatten_set h4.2.1 hus (by simp;omega)]
 exact hr
theorem store_av (hS:Sat C σ m ids a) (hd:dOK d C.N=true) (hfr:fresh σ d=true) {T T':TypeId} {N k i c:Nat} {l0 l:List (TabT c)} {x y:Operand} {u:Value} (hk:sizeE E T=some k)
   (hi:lk σ.heap i=some (.vec T' N c l0)) (hl:k=N*KT c) (hx:∃ b,ids[i]?=some (.pointer (some ⟨b,0,none⟩))∧XK.ev (envA a) x=some (.pointer (some ⟨b,0,none⟩))) (hy:XK.ev (envA a) y=some u) (hs:Den m ids (.av c N l) u)
   (hK:K (setE (setH σ i (.vec T' N c l)) d .und)):StB E C K a m.w ⟨d,.store T x y,ty,pos,af,g⟩:=by
 obtain⟨b,hid,hx⟩:=hx;obtain⟨b',uss,h2,h3,h4,h5⟩:=hS.heap.sat i _ hi;rw [hid]at h2;cases h2;rw [Den]at hs;obtain⟨uss',rfl,h6,h7⟩:=hs;obtain⟨zz,bb,q7⟩:=sizeE_spec hk;obtain⟨inf,h8,_,h9,_⟩:=q7.ex;have hfb:Fp ids i (.vec T' N c l0) b:=⟨rfl,_,hid,rfl⟩;have hf1:=h4.flat;have hf2:=h6.flat;have hcz:(Value.agg uss'.flatten.toArray).cells=uss'.flatten.toArray:=rfl;refine stB_of (Stp.store (T':=T') (old:=uss.flatten) (by rw [h8,Option.map_some,h9,hcz];congr 1;simp only [List.size_toArray];rw [hf2,h7,hl]) hx hy h3 (by rw [hcz];simp only [List.size_toArray];rw [hf1,hf2,h5,h7]) ?_ fun w' hu hr=>?_)
 ·rw [hcz,List.toList_toArray,List.all_eq_true];exact fun q hq=>h6.one q hq
 ·have hle:=le_upd hS hi hfb hu;refine Out.upd (hb':=.vec T' N c l) hS hi hu hfb ⟨_,uss',hid,?_,h6.le hle,h7⟩ (fun b' hf=>fp_ptr (hb:=.gone) hid hf) hd hfr (by rw [Den]) hK
  rw [hcz,List.toList_toArray]at hr;exact hr
theorem toAv_den {c N:Nat} {s:SV} {y:Value} (h:Den m ids s y):Den m ids (toAv c N s) y:=by
 unfold toAv;split
 ·split
  ·rename_i l hl;rw [Den]at h;obtain⟨us,rfl,h1⟩:=h;obtain⟨uss,e,h2,h3⟩:=decN_ok hl h1;rw [Den];exact⟨uss,by rw [e],h2,h3⟩
  ·exact h
 ·exact h
theorem putL_one {us:List Value} {k:Nat} {u:Value} (hk:k<us.length):XK.putL us k [u]=us.set k u:=by
 rw [XK.putL,List.set_eq_take_append_cons_drop,if_pos hk];simp
theorem store_noe (hS:Sat C σ m ids a) (hd:dOK d C.N=true) (hfr:fresh σ d=true) {T T1 T2 c' c i j j0:Nat} {n:Int} {ls:List (TabT c')} {x y:Operand} {u:Value} (hk:sizeE E T=some 1) (hi:lk σ.heap i=some (.nst T1 T2 c' c ls (some (n,j0))))
   (hx:∃ b q nn cp vs,ids[i]?=some (.tuple (.slice (some ⟨b,q,none⟩) nn cp::vs).toArray)∧0≤n∧n<nn∧XK.ev (envA a) x=some (.pointer (some ⟨b,q+n.toNat,none⟩))) (hy:XK.ev (envA a) y=some u) (hs:Den m ids (.osl j) u)
   (hK:K (setE (setH σ i (.nst T1 T2 c' c ls (some (n,j)))) d .und)):StB E C K a m.w ⟨d,.store T x y,ty,pos,af,g⟩:=by
 obtain⟨b,q,nn,cp,vs0,hid,hn0,hn1,hx⟩:=hx;obtain⟨v,vs,us,q1,q2⟩:=hS.heap.sat i _ hi;obtain⟨rfl,rfl⟩:=tup_inj hid q1;obtain⟨k0,kl,kv,_⟩:=q2.hole n j0 rfl;obtain⟨zz,bb,h7⟩:=sizeE_spec hk;obtain⟨inf,h8,_,h9,_⟩:=h7.ex;have hc:=cellsOf_ok (s:=.osl j) rfl hs;rw [Den]at hs
 have huc:u.cells.toList=[u]:=by
   simp only [cellsOf]at hc;rw [DenL]at hc;obtain⟨u',r,e1,e2,e3⟩:=hc;rw [DenL]at e3;subst e3;rw [Den]at e2;rw [hs.1]at e2;cases e2.1;exact e1
 have hus:us.length=ls.length:=by have:=q2.out.1;omega
 have hfb:Fp ids i (.nst T1 T2 c' c ls (some (n,j0))) b:=(fp_nst q1).2 ⟨0,_,rfl,rfl⟩;refine stB_of (Stp.storeQ (v:=.slice (some ⟨b,q,none⟩) nn cp) (c:=n.toNat) (by rw [h8,Option.map_some,h9];congr 1;rw [← Array.length_toList,huc];rfl) (by rw [huc];simp [hs.2]) q2.out (by rw [huc];simp;omega) hx hy (by omega) fun w' hu hr=>?_)
 have hle:=le_upd hS hi hfb hu;rw [huc,putL_one (by omega)]at hr
 refine⟨_,m.S,ids,(hS.updG (hb':=.nst T1 T2 c' c ls (some (n,j))) hi hu hfb ⟨_,_,us.set n.toNat u,q1,hr,q2.len,q2.K1,q2.B,fun r y hr hne=>?_,fun k j' e=>?_,q2.sep⟩ fun b' hf=>(fp_nst q1).2 ((fp_nst q1).1 hf)).put hd hfr (by rw [Den]),hK⟩
 ·have hne':r≠n.toNat:=hne n j rfl;obtain⟨w,w1,w2,l,uss,w3,w4,w5,w6⟩:=q2.row r y hr (fun k' j' e=>by cases e;exact hne')
  refine⟨w,w1,by rw [List.getElem?_set_ne (Ne.symm hne')];exact w2,l,uss,w3,ownQ_same w4 fun b' hb=>hu.block b' fun e=>?_,w5.le hle,w6⟩
  subst e;exact q2.sep 0 (r+1) _ w b' rfl (by simpa using w1) (by omega) rfl hb
 ·cases e;exact⟨k0,kl,kv,u,by rw [List.getElem?_set_self (by omega)],hs.1,hs.2⟩
theorem store_ok (hS:Sat C σ m ids a) (hd:dOK d C.N=true) (hfr:fresh σ d=true) {T:TypeId} {x y:Operand} {p s:SV} {q u:Value} (hx:XK.ev (envA a) x=some q) (hy:XK.ev (envA a) y=some u) (hp:Den m ids p q) (hs:Den m ids s u) (h:vcStore E σ d T p s K) :
   StB E C K a m.w ⟨d,.store T x y,ty,pos,af,g⟩:=by
 unfold vcStore at h;split at h
 ·cases h
 ·rename_i k hk;split at h
  ·rename_i i o;rw [Den]at hp;obtain⟨b,hid,rfl⟩:=hp;split at h
   ·rename_i T' cs hl;split at h
    ·rename_i h1 h2 h3;exact store_row hS hd hfr hk hl (Nat.eq_of_beq_eq_true h1) (Nat.le_of_ble_eq_true h2) h3 ⟨b,hid,hx⟩ hy hs h
    ·cases h
   ·rename_i T' N c l0 hl;split at h
    ·rename_i c' N' l' hto;have hs:=hto▸toAv_den (c:=c) (N:=N) hs;split at h
     ·rename_i l hcast hN hkk;obtain⟨e,hcast⟩:=castL_some hcast;subst e;have hcast:l'=l:=hcast;subst hcast;have hN:=Nat.eq_of_beq_eq_true hN;subst hN;exact store_av hS hd hfr hk hl (Nat.eq_of_beq_eq_true hkk) ⟨b,hid,hx⟩ hy hs h
     ·cases h
    ·cases h
   ·cases h
  ·rename_i i c n o;rw [Den]at hp;obtain⟨b,q0,nn,cp,hid,h0,h1,rfl⟩:=hp;split at h
   ·rename_i T' z c' l' hl;split at h
    ·rename_i l hcast h2 h3 h4;obtain⟨e,hcast⟩:=castL_some hcast;subst e;have hcast:l'=l:=hcast;subst hcast;rw [Bool.and_eq_true]at h3;split at h
     ·rename_i cs hcs;split at h
      ·rename_i v hv;exact store_elem hS hd hfr hk hl (Nat.eq_of_beq_eq_true h2) (Nat.le_of_ble_eq_true h3.1) (Nat.le_of_ble_eq_true h3.2) h4 hcs hv ⟨b,q0,nn,cp,hid,h0,h1,hx⟩ hy hs h
      ·cases h
     ·cases h
    ·cases h
   ·cases h
  ·rename_i i n;split at h
   ·rename_i T1 T2 c' c ls k0 j0 j hi;split at h
    ·rename_i hj hk1;obtain⟨⟨e⟩,h⟩:=h;subst e;rw [Den]at hp;obtain⟨b,q0,nn,cp,vs,hid,h0,h1,rfl⟩:=hp;have hk1:=Nat.eq_of_beq_eq_true hk1;subst hk1;exact store_noe hS hd hfr hk hi ⟨b,q0,nn,cp,vs,hid,h0,h1,hx⟩ hy hs h
    ·cases h
   ·cases h
  ·rename_i i c N n o;rw [Den]at hp;obtain⟨b,hid,h0,h1,rfl⟩:=hp;split at h
   ·rename_i T' N' c' l' hl;split at h
    ·rename_i l hcast h2 h3 h4 h5;obtain⟨e,hcast⟩:=castL_some hcast;subst e;have hcast:l'=l:=hcast;subst hcast;rw [Bool.and_eq_true]at h3;have h5:=Nat.eq_of_beq_eq_true h5;subst h5;split at h
     ·rename_i cs hcs;split at h
      ·rename_i v hv;exact store_vec hS hd hfr hk hl (Nat.eq_of_beq_eq_true h2) (Nat.le_of_ble_eq_true h3.1) h4 hcs hv ⟨b,hid,h0,h1,hx⟩ hy hs h
      ·cases h
     ·cases h
    ·cases h
   ·cases h
  ·cases h
theorem box_ok (hS:Sat C σ m ids a) (hG:Glob E.G m) (hd:dOK d C.N=true) (hfr:fresh σ d=true) {T:TypeId} {x:Operand} {ic:Ic} {k:Nat} (h:vcL E ic k σ d (.box T x) K):StE E C K a m.w ⟨d,.box T x,ty,pos,af,g⟩:=by
 have hh:Holds a []:=fun g hg=>by cases hg
 simp only [vcL]at h;split at h
 ·rename_i c N l hs;obtain⟨u,h1,_,h2⟩:=hS.toSatF.ev hG hh hs;split at h
  ·rename_i n e k _ _ _ _ hT;split at h
   ·rename_i hn hk;have hn:=Nat.eq_of_beq_eq_true hn;rw [Den]at h2;obtain⟨uss,rfl,h3,h4⟩:=h2;refine stE_of (Stp.box h1 fun w' hext hsz hr=>⟨hext,?_⟩)
    have hle:m.le ⟨w',m.S⟩:=Ext.le (S:=m.S) hext fun b hb=>(hS.S b hb).1
    refine Out.new hS hext _ (.vec T N c l) ⟨m.w.heap.size,uss,last_get hS _,?_,h3.le hle,h4⟩ (fun b hf=>?_) hd hfr (den_loc hS w' _) h
    ·have hcz:(Value.agg uss.flatten.toArray).cells=uss.flatten.toArray:=rfl;rw [hcz,List.toList_toArray]at hr;exact hr
    ·have:=fp_last hS hf;cases this;exact Nat.le_refl _
   ·cases h
  ·cases h
 ·rename_i s _ hs;obtain⟨u,h1,_,h2⟩:=hS.toSatF.ev hG hh hs;split at h
  ·rename_i h3;exact stE_of (Stp.box h1 fun w' hext hsz hr=>⟨hext,new_row hS hd hfr (cellsOf_ok h3 h2) h hext hr⟩)
  ·cases h
 ·cases h
theorem alloc_ok (hS:Sat C σ m ids a) (hd:dOK d C.N=true) (hfr:fresh σ d=true) {T:TypeId} {ic:Ic} {k:Nat} (h:vcL E ic k σ d (.alloc T) K):StE E C K a m.w ⟨d,.alloc T,ty,pos,af,g⟩:=by
 simp only [vcL]at h;split at h
 ·rename_i i hT;exact stE_of (Stp.alloc (inf_of' hT) fun w' hext hsz hr=>⟨hext,new_row hS hd hfr (svs_den _) h hext hr⟩)
 ·cases h
end
end Go.SX
namespace Go.SX
open Go.XK Go.RowKit
theorem memN_spec {i:Nat}:∀ {l:List Nat},memN i l=true↔i∈l
 |[]=>by simp [memN]
 |j::r=>by
   simp only [memN]
   by_cases h:i=j
   ·subst h;simp
   ·have hb:Nat.beq i j=false:=by
      cases hb:Nat.beq i j with
      |false=>rfl
      |true=>exact absurd (Nat.eq_of_beq_eq_true hb) h
    simp [hb,h,memN_spec]
theorem nodupN_spec:∀ {l:List Nat},nodupN l=true→l.Nodup
 |[],_=>List.nodup_nil
 |i::r,h=>by
   simp only [nodupN]at h;split at h
   ·cases h
   ·rename_i hm;rw [List.nodup_cons];refine⟨fun hi=>?_,nodupN_spec h⟩
    rw [memN_spec.2 hi]at hm;cases hm
theorem allLt_spec {n:Nat}:∀ {l:List Nat},allLt n l=true→∀ i∈l,i<n
 |[],_,_,h=>by cases h
 |j::r,h,i,hi=>by
   simp only [allLt]at h;split at h
   ·rename_i hb;rcases List.mem_cons.1 hi with rfl|hi
    ·exact Nat.le_of_ble_eq_true hb
    ·exact allLt_spec h i hi
   ·cases h
theorem lk_key {α:Type}:∀ {H:List (Nat×α)} {i:Nat} {x:α},lk H i=some x→(i,x)∈H
 |[],_,_,h=>by cases h
 |(k,v)::r,i,x,h=>by
   rw [lk_cons]at h;split at h
   ·rename_i e;subst e;cases h;exact List.mem_cons_self ..
   ·exact List.mem_cons_of_mem _ (lk_key h)
theorem keysH_mem:∀ {H:List (Nat×HB)} {i:Nat} {x:HB},(i,x)∈H→i∈keysH H
 |[],_,_,h=>by cases h
 |(k,v)::r,i,x,h=>by
   rcases List.mem_cons.1 h with e|h
   ·cases e;exact List.mem_cons_self ..
   ·exact List.mem_cons_of_mem _ (keysH_mem h)
theorem lk_live {i:Nat} {hb:HB}:∀ {H:List (Nat×HB)} {seen:List Nat},lk H i=some hb→hb≠.gone→i ∉ seen→(i,hb)∈live seen H
 |[],_,h,_,_=>by cases h
 |(k,v)::r,seen,h,hg,hs=>by
   rw [lk_cons]at h;simp only [live]
   by_cases hk:k=i
   ·subst hk;rw [if_pos rfl]at h;cases h
    have:memN k seen=false:=by
      cases hm:memN k seen with
      |false=>rfl
      |true=>exact absurd (memN_spec.1 hm) hs
    rw [this];cases hb<;>first|exact absurd rfl hg|exact List.mem_cons_self ..
   ·rw [if_neg hk]at h
    have hs':i ∉ k::seen:=fun hi=>by
      rcases List.mem_cons.1 hi with e|hi
      ·exact hk e.symm
      ·exact hs hi
    split
    ·exact lk_live h hg hs
    ·split
     ·exact lk_live h hg hs'
     ·exact List.mem_cons_of_mem _ (lk_live h hg hs')
theorem HM_spec {σ:St} {n z:Nat} {r:List Nat}:∀ {l:List (Nat×HB)},HM σ n z r l→∀ p∈l,lk σ.heap (rn n z r p.1)=some (renB n z r p.2)
 |[],_,_,h=>by cases h
 |(i,h)::l,⟨h1,h2⟩,p,hp=>by
   rcases List.mem_cons.1 hp with rfl|hp
   ·exact h1
   ·exact HM_spec h2 p hp
theorem gones_lk {r:List Nat} {H:List (Nat×HB)} {i:Nat} {hb:HB} (h:lk (gones r++H) i=some hb):(i∈r∧hb=.gone)∨(i ∉ r∧lk H i=some hb):=by
 induction r with
 |nil=>exact .inr ⟨by simp,h⟩
 |cons k r ih =>
   simp only [gones,List.cons_append,lk_cons]at h;split at h
   ·rename_i e;cases h;exact .inl ⟨by rw [e];exact List.mem_cons_self ..,rfl⟩
   ·rename_i e;rcases ih h with ⟨h1,h2⟩|⟨h1,h2⟩
    ·exact .inl ⟨List.mem_cons_of_mem _ h1,h2⟩
    ·exact .inr ⟨fun hi=>by
                              rcases List.mem_cons.1 hi with e2|hi
                              ·exact e e2.symm
                              ·exact h1 hi,h2⟩
theorem rn0 {z:Nat} {r:List Nat} {i:Nat} (hi:i<r.length):rn 0 z r i=r[i]:=by
 simp only [rn,Nat.sub_zero,nth_eq,List.getElem?_eq_getElem hi];rfl
theorem rn0_big {z:Nat} {r:List Nat} {i:Nat} (hi:r.length≤i):rn 0 z r i=i+z:=by
 simp only [rn,Nat.sub_zero,nth_eq,List.getElem?_eq_none hi];rfl
theorem upFrom_len:∀ (k n:Nat),(upFrom k n).length=n
 |_,0=>rfl
 |k,n+1=>by simp [upFrom,upFrom_len (k+1) n]
theorem upFrom_get:∀ (k n i:Nat),i<n→(upFrom k n)[i]?=some (k+i)
 |_,0,_,h=>absurd h (Nat.not_lt_zero _)
 |k,n+1,0,_=>rfl
 |k,n+1,i+1,h=>by
   simp only [upFrom,List.getElem?_cons_succ];rw [upFrom_get (k+1) n i (by omega)]
   congr 1
   omega
section
variable {m m':Mm} {ids ids':List Value} {n z:Nat} {r:List Nat}
theorem HSat.ren (hr:Rn n z r ids ids') {i:Nat} {hb:HB} (h:HSat m ids i hb):HSat m ids' (rn n z r i) (renB n z r hb):=by
 cases hb with
 |row=>obtain⟨b,vs,h1,h2,h3⟩:=h;exact⟨b,vs,rn_get hr h1,h2,DenL.ren hr _ h3⟩
 |fro=>obtain⟨b,vs,h1,h2,h3,h4⟩:=h;exact⟨b,vs,rn_get hr h1,h2,DenL.ren hr _ h3,h4⟩
 |arr=>obtain⟨v,uss,h1,h2⟩:=h;exact⟨v,uss,rn_get hr h1,h2⟩
 |far=>obtain⟨v,h1,h2⟩:=h;exact⟨v,rn_get hr h1,h2⟩
 |vec=>obtain⟨b,uss,h1,h2⟩:=h;exact⟨b,uss,rn_get hr h1,h2⟩
 |mp=>obtain⟨b,h1,h2⟩:=h;exact⟨b,rn_get hr h1,h2⟩
 |nst T T' c' c ls hh =>
   obtain⟨v,vs,us,h1,h2⟩:=h
   cases hh with
   |none=>exact⟨v,vs,us,rn_get hr h1,h2.1,h2.2,h2.3,h2.4,h2.5,fun k j e=>by(cases e),h2.7⟩
   |some p =>
     obtain⟨k0,j0⟩:=p
     exact⟨v,vs,us,rn_get hr h1,h2.1,h2.2,h2.3,h2.4,fun r x hx hne=>h2.5 r x hx fun k j e=>hne k (SX.rn n z _ j) (by cases e;rfl),fun k j e=>by
       cases e;obtain⟨q1,q2,q3,u,q4,q5,q6⟩:=h2.6 k0 j0 rfl
       exact⟨q1,q2,q3,u,q4,rn_get hr q5,q6⟩,h2.7⟩
 |nfr=>obtain⟨v,vs,h1,h2⟩:=h;exact⟨v,vs,rn_get hr h1,h2⟩
 |ext=>obtain⟨v,h1,h2⟩:=h;exact⟨v,rn_get hr h1,h2⟩
 |gone=>trivial
theorem HSat.unren (hr:Rn' n z r ids ids') {i:Nat} {hb:HB} (h:HSat m ids' (rn n z r i) (renB n z r hb)):HSat m ids i hb:=by
 cases hb with
 |row=>obtain⟨b,vs,h1,h2,h3⟩:=h;exact⟨b,vs,(hr i).trans h1,h2,DenL.unren hr _ h3⟩
 |fro=>obtain⟨b,vs,h1,h2,h3,h4⟩:=h;exact⟨b,vs,(hr i).trans h1,h2,DenL.unren hr _ h3,h4⟩
 |arr=>obtain⟨v,uss,h1,h2⟩:=h;exact⟨v,uss,(hr i).trans h1,h2⟩
 |far=>obtain⟨v,h1,h2⟩:=h;exact⟨v,(hr i).trans h1,h2⟩
 |vec=>obtain⟨b,uss,h1,h2⟩:=h;exact⟨b,uss,(hr i).trans h1,h2⟩
 |mp=>obtain⟨b,h1,h2⟩:=h;exact⟨b,(hr i).trans h1,h2⟩
 |nst T T' c' c ls hh =>
   cases hh with
   |none =>
     obtain⟨v,vs,us,h1,h2⟩:=h;exact⟨v,vs,us,(hr i).trans h1,h2.1,h2.2,h2.3,h2.4,h2.5,fun k j e=>by(cases e),h2.7⟩
   |some p =>
     obtain⟨k0,j0⟩:=p;obtain⟨v,vs,us,h1,h2⟩:=h
     exact⟨v,vs,us,(hr i).trans h1,h2.1,h2.2,h2.3,h2.4,fun r x hx hne=>h2.5 r x hx fun k j e=>hne k j0 (by cases e;rfl),fun k j e=>by
       cases e;obtain⟨q1,q2,q3,u,q4,q5,q6⟩:=h2.6 k0 _ rfl
       exact⟨q1,q2,q3,u,q4,(hr j0).trans q5,q6⟩,h2.7⟩
 |nfr=>obtain⟨v,vs,h1,h2⟩:=h;exact⟨v,vs,(hr i).trans h1,h2⟩
 |ext=>obtain⟨v,h1,h2⟩:=h;exact⟨v,(hr i).trans h1,h2⟩
 |gone=>trivial
theorem own_ren {hb:HB}:(renB n z r hb).own=hb.own:=by
 cases hb<;>first|rfl|(rename_i h;rcases h with _|⟨_,_⟩<;>rfl)
theorem Fp.ren (hr:Rn n z r ids ids') {i:Nat} {hb:HB} {b:Nat} (h:Fp ids i hb b):Fp ids' (rn n z r i) (renB n z r hb) b:=by
 obtain⟨h1,v,h2,h3⟩:=h;exact⟨own_ren.trans h1,v,rn_get hr h2,h3⟩
theorem Fp.unren (hr:Rn' n z r ids ids') {i:Nat} {hb:HB} {b:Nat} (h:Fp ids' (rn n z r i) (renB n z r hb) b):Fp ids i hb b:=by
 obtain⟨h1,v,h2,h3⟩:=h;exact⟨own_ren.symm.trans h1,v,(hr i).trans h2,h3⟩
theorem Rn'.rn (h:Rn' n z r ids ids'):Rn n z r ids ids':=fun i _=>h i
theorem renH_lk {H:List (Nat×HB)} {j:Nat} {hb:HB} (h:lk (renH n z r H) j=some hb) (hinj:∀ i i',i∈keysH H→i'∈keysH H→SX.rn n z r i=SX.rn n z r i'→i=i'):∃ i hb',SX.rn n z r i=j∧lk H i=some hb'∧hb=renB n z r hb':=by
 induction H with
 |nil=>cases h
 |cons p H ih =>
   obtain⟨k,x⟩:=p;simp only [renH,lk_cons]at h;split at h
   ·rename_i e;cases h;exact⟨k,x,e,by rw [lk_cons,if_pos rfl],rfl⟩
   ·rename_i e;obtain⟨i,hb',h1,h2,h3⟩:=ih h fun i i' hi hi'=>hinj i i' (List.mem_cons_of_mem _ hi) (List.mem_cons_of_mem _ hi')
    refine⟨i,hb',h1,?_,h3⟩;rw [lk_cons,if_neg]
    ·exact h2
    ·intro e2;subst e2;exact e h1
theorem lk_append {α:Type} {A B:List (Nat×α)} {i:Nat}:lk (A++B) i=match lk A i with
   |some x=>some x
   |none=>lk B i:=by
 induction A with
 |nil=>rfl
 |cons p A ih =>
   obtain⟨k,x⟩:=p;rw [List.cons_append,lk_cons,lk_cons,ih];split<;>rfl
end
end Go.SX
namespace Go.SX
open Go.XK Go.RowKit
section
variable {E:En} {C:Cx} {σ:St} {m:Mm} {ids:List Value} {a:Act} {d:Option Tmp} {ty:TypeId} {pos:String} {af:Array Edge} {g:Option (Nat×Bool)} {K:St→Prop}
theorem rn2_inj {nb n n':Nat} {r:List Nat} (hnd:r.Nodup) (hlt:∀ i∈r,i<nb) (hn:r.length=n) (i i':Nat) (hi:i<n') (hi':i'<n') (hnn:n≤n') (h:rn 0 0 (r++upFrom nb (n'-n)) i=rn 0 0 (r++upFrom nb (n'-n)) i'):i=i':=by
 have hl:(r++upFrom nb (n'-n)).length=n':=by rw [List.length_append,upFrom_len,hn];omega
 have val:∀ i,i<n'→(i<n∧rn 0 0 (r++upFrom nb (n'-n)) i∈r∧r[i]?=some (rn 0 0 (r++upFrom nb (n'-n)) i))∨(n≤i∧rn 0 0 (r++upFrom nb (n'-n)) i=nb+(i-n)):=by
   intro i hi
   have hget:(r++upFrom nb (n'-n))[i]?=some (rn 0 0 (r++upFrom nb (n'-n)) i):=by
     rw [rn0 (by rw [hl];exact hi),List.getElem?_eq_getElem]
   by_cases hlt':i<n
   ·rw [List.getElem?_append_left (by omega)]at hget
    exact .inl ⟨hlt',List.mem_of_getElem? hget,hget⟩
   ·rw [List.getElem?_append_right (by omega),upFrom_get _ _ _ (by omega)]at hget
    refine .inr ⟨by omega,?_⟩
    have:=Option.some.inj hget;rw [← this,hn]
 rcases val i hi with ⟨h1,h2,h3⟩|⟨h1,h2⟩<;>rcases val i' hi' with ⟨h4,h5,h6⟩|⟨h4,h5⟩
 ·rw [h]at h3;exact(List.getElem?_inj (by omega) hnd).1 (h3.trans h6.symm)
 ·have:=hlt _ h2;omega
 ·have:=hlt _ h5;omega
 ·omega
theorem callH_ok (hS:Sat C σ m ids a) (hGE:C.G=E.G) (hd:dOK d C.N=true) (hfr:fresh σ d=true) {f:FuncId} {args:List SV} {vs:List Value} (hv:DenL m ids args vs) (h:callH E σ d f args K) :
   FnOK E.P f∧Calls E.P f vs.toArray m.w fun e w'=>∃ v,e=.returned v∧Out C K (a.put d v) w':=by
 obtain⟨n,A,H,R,r,hc,hnd,hrl,hrn,hargs,hkl,hHM,hK⟩:=h;have hnd:=nodupN_spec hnd;have hrl:=allLt_spec hrl;have hkl:=allLt_spec hkl;rw [len_eq]at hrn;have hlen:=hS.len
 have hids:∃ idc:List Value,idc.length=n∧Rn' 0 σ.nb r idc ids:=by
   refine⟨r.map fun j=>ids.getD j undef,by rw [List.length_map,hrn],fun i=>?_⟩
   by_cases hi:i<r.length
   ·rw [rn0 hi,List.getElem?_map,List.getElem?_eq_getElem hi,Option.map_some];have:=hrl _ (List.getElem_mem hi);rw [List.getElem?_eq_getElem (by omega),List.getD_eq_getElem?_getD,List.getElem?_eq_getElem (by omega),Option.getD_some]
   ·rw [rn0_big (by omega),List.getElem?_eq_none (by rw [List.length_map];omega),List.getElem?_eq_none (by omega)]
 obtain⟨idc,hcl,hrr⟩:=hids;have hHM:=HM_spec hHM
 have own1:∀ i hb b,lk H i=some hb→Fp idc i hb b→lk σ.heap (rn 0 σ.nb r i)=some (renB 0 σ.nb r hb)∧i<n∧Fp ids (rn 0 σ.nb r i) (renB 0 σ.nb r hb) b:=fun i hb b hi hf=>by
   have hng:hb≠.gone:=fun e=>by subst e;exact absurd hf.1 (by simp [HB.own])
   exact⟨hHM _ (lk_live hi hng (by simp)),hkl i (keysH_mem (lk_key hi)),hf.ren hrr.rn⟩
 have hHO:HeapOK m idc H:=by
   refine⟨fun i hb hi=>?_,fun i hb j hb' hi hj hne b f1 f2=>?_,fun i hb b hi f1=>?_⟩
   ·by_cases hg:hb=.gone
    ·subst hg;trivial
    ·exact HSat.unren hrr (hS.heap.sat _ _ (hHM _ (lk_live hi hg (by simp))))
   ·obtain⟨q1,q2,q3⟩:=own1 i hb b hi f1;obtain⟨q4,q5,q6⟩:=own1 j hb' b hj f2;refine hS.heap.sep _ _ _ _ q1 q4 (fun e=>hne ?_) b q3 q6
    rw [rn0 (by omega),rn0 (by omega)]at e
    exact(List.getElem_inj (hnd)).1 e
   ·obtain⟨q1,_,q3⟩:=own1 i hb b hi f1;exact hS.heap.fpS _ _ b q1 q3
 have hvA:DenL m idc A vs:=DenL.unren hrr A (by rw [hargs];exact hv)
 have hG:Glob E.G m:=hGE▸hS.glob;refine⟨hc.fn,(hc.ok m idc vs hG (fun b hb=>(hS.S b hb).1) hcl hHO hvA).mono fun e w' ⟨v,S',ids',s,H',he,hR,hmod,hle,hS',hpre,hnn,hHO',hHT,hden⟩=>⟨v,he,?_⟩⟩
 obtain⟨k1,k2,k3⟩:=hK s H' ids'.length hR;rw [deepS_eq]at k3;have k1:=allLt_spec k1
 have lowH:∀ b,HT idc H b→C.T0 b∨C.w0.heap.size≤b:=fun b ⟨i,hb,hi,hf⟩=>by
   obtain⟨q1,_,q3⟩:=own1 i hb b hi hf;exact hS.low _ _ b q1 q3
 have hsz:=hS.mod.size;have rinj:=fun i i' (hi:i∈keysH H') (hi':i'∈keysH H')=>rn2_inj (nb:=σ.nb) hnd hrl hrn i i' (k1 i hi) (k1 i' hi') hnn
 have hrr2:Rn 0 0 (r++upFrom σ.nb (ids'.length-n)) ids' (ids++ids'.drop n):=fun i hi=>by
   have hl2:(r++upFrom σ.nb (ids'.length-n)).length=ids'.length:=by rw [List.length_append,upFrom_len,hrn];omega
   rw [rn0 (by omega)]
   by_cases hin:i<n
   ·rw [hpre i hin,hrr i,rn0 (by omega)]
    have e1:(r++upFrom σ.nb (ids'.length-n))[i]=r[i]:=List.getElem_append_left (by omega)
    rw [e1,List.getElem?_append_left];have:=hrl _ (List.getElem_mem (show i<r.length by omega))
    omega
   ·have e1:(r++upFrom σ.nb (ids'.length-n))[i]=σ.nb+(i-n):=by
      apply Option.some.inj;rw [← List.getElem?_eq_getElem,List.getElem?_append_right (by omega),hrn,upFrom_get _ _ _ (by omega)]
    rw [e1,List.getElem?_append_right (by omega),List.getElem?_drop,hlen]
    congr 1
    omega
 have oldK:∀ i hb,i ∉ r→lk σ.heap i=some hb→HSat ⟨w',S'⟩ (ids++ids'.drop n) i hb:=fun i hb hir hi =>
   ((
     hS.heap.sat i hb hi).le hle fun b hf=>hmod.block b (fp_lt (hS.heap.sat i hb hi) hf) fun⟨j,hb',hj,hf'⟩=>by
     obtain⟨q1,q2,q3⟩:=own1 j hb' b hj hf';refine hS.heap.sep _ _ _ _ hi q1 (fun e=>hir ?_) b hf q3
     rw [e,rn0 (by omega)]
     exact List.getElem_mem _).app _
 have oldF:∀ i hb b,lk σ.heap i=some hb→Fp (ids++ids'.drop n) i hb b→Fp ids i hb b:=fun i hb b hi hf=>fp_app (hS.heap.sat i hb hi) hf
 have oldN:∀ i hb b,i ∉ r→lk σ.heap i=some hb→Fp ids i hb b→¬ HT idc H b∧b<m.w.heap.size:=fun i hb b hir hi hf=>⟨fun⟨j,hb',hj,hf'⟩=>by
   obtain⟨q1,q2,q3⟩:=own1 j hb' b hj hf';refine hS.heap.sep _ _ _ _ hi q1 (fun e=>hir ?_) b hf q3
   rw [e,rn0 (by omega)]
   exact List.getElem_mem _,fp_lt (hS.heap.sat i hb hi) hf⟩
 have newF:∀ i hb b,lk H' i=some hb→Fp (ids++ids'.drop n) (rn 0 0 (r++upFrom σ.nb (ids'.length-n)) i) (renB 0 0 (r++upFrom σ.nb (ids'.length-n)) hb) b→Fp ids' i hb b:=fun i hb b hi ⟨h1,v,h2,h3⟩=>by
   refine⟨own_ren.symm.trans h1,v,?_,h3⟩;rw [hrr2 i (k1 i (keysH_mem (lk_key hi)))];exact h2
 have cases3:∀ i hb,lk (aftH σ n r H' ids'.length).heap i=some hb→(∃ j hb',rn 0 0 (r++upFrom σ.nb (ids'.length-n)) j=i∧lk H' j=some hb'∧hb=renB 0 0 (r++upFrom σ.nb (ids'.length-n)) hb')∨hb=.gone∨(i ∉ r∧lk σ.heap i=some hb):=by
   intro i hb hi;simp only [aftH]at hi;rw [lk_append]at hi;split at hi
   ·rename_i x hx;cases hi;exact .inl (renH_lk hx rinj)
   ·rcases gones_lk hi with ⟨_,h2⟩|h2
    ·exact .inr (.inl h2)
    ·exact .inr (.inr h2)
 have goneF:∀ {i b},¬ Fp (ids++ids'.drop n) i HB.gone b:=fun⟨h,_⟩=>by cases h
 have newOld:∀ j hb' i hb b,lk H' j=some hb'→Fp ids' j hb' b→i ∉ r→lk σ.heap i=some hb→¬ Fp (ids++ids'.drop n) i hb b:=fun j hb' i hb b hj f1 hir hi f2=>by
   obtain⟨q1,q2⟩:=oldN i hb b hir hi (oldF i hb b hi f2);rcases hHT b ⟨j,hb',hj,f1⟩with q3|q3
   ·exact q1 q3
   ·omega
 have hout:Sat C (aftH σ n r H' ids'.length) ⟨w',S'⟩ (ids++ids'.drop n) a:=by
   refine⟨⟨?_,⟨fun i hb hi=>?_,fun i hb j hb' hi hj hne b f1 f2=>?_,fun i hb b hi f1 f2=>?_⟩,fun i hb b hi f1=>?_,fun b hb=>(hle.S b (hS.S0 b hb)).1,fun b hb=>?_,?_,hS.glob.le hle,hS.n0,fun i hi=>?_⟩,((hS.toSatF.le hle).app _).of rfl rfl rfl⟩
   ·simp only [aftH];rw [List.length_append,List.length_drop,hlen]
   ·rcases cases3 i hb hi with ⟨j,hb',rfl,h2,rfl⟩|rfl|⟨h1,h2⟩
    ·exact(hHO'.sat j hb' h2).ren hrr2
    ·trivial
    ·exact oldK i hb h1 h2
   ·rcases cases3 i hb hi with ⟨i1,hb1,rfl,h2,rfl⟩|rfl|⟨h1,h2⟩
    ·have f1':=newF i1 hb1 b h2 f1;rcases cases3 j hb' hj with ⟨j1,hb2,rfl,h4,rfl⟩|rfl|⟨h3,h4⟩
     ·exact hHO'.sep i1 hb1 j1 hb2 h2 h4 (fun e=>hne (by rw [e])) b f1' (newF j1 hb2 b h4 f2)
     ·exact goneF f2
     ·exact newOld i1 hb1 j hb' b h2 f1' h3 h4 f2
    ·exact goneF f1
    ·rcases cases3 j hb' hj with ⟨j1,hb2,rfl,h4,rfl⟩|rfl|⟨h3,h4⟩
     ·exact newOld j1 hb2 i hb b h4 (newF j1 hb2 b h4 f2) h1 h2 f1
     ·exact goneF f2
     ·exact hS.heap.sep i hb j hb' h2 h4 hne b (oldF i hb b h2 f1) (oldF j hb' b h4 f2)
   ·rcases cases3 i hb hi with ⟨i1,hb1,rfl,h2,rfl⟩|rfl|⟨h1,h2⟩
    ·exact hHO'.fpS i1 hb1 b h2 (newF i1 hb1 b h2 f1) f2
    ·exact goneF f1
    ·have q0:=oldF i hb b h2 f1;obtain⟨q1,q2⟩:=oldN i hb b h1 h2 q0;rcases(hS' b f2).2 with q3|q3|q3
     ·exact hS.heap.fpS i hb b h2 q0 q3
     ·exact q1 q3
     ·omega
   ·rcases cases3 i hb hi with ⟨i1,hb1,rfl,h2,rfl⟩|rfl|⟨h1,h2⟩
    ·rcases hHT b ⟨i1,hb1,h2,newF i1 hb1 b h2 f1⟩with q3|q3
     ·exact lowH b q3
     ·exact .inr (by omega)
    ·exact absurd f1 goneF
    ·exact hS.low i hb b h2 (oldF i hb b h2 f1)
   ·obtain⟨q1,q2⟩:=hS' b hb;refine⟨q1,?_⟩;rcases q2 with q2|q2|q2
    ·exact(hS.S b q2).2
    ·exact .inr (lowH b q2)
    ·exact .inr (.inr (by omega))
   ·refine⟨hmod.os.trans hS.mod.os,hmod.tape.trans hS.mod.tape,hmod.output.trans hS.mod.output,Nat.le_trans hS.mod.size hmod.size,fun k hk hn=>(hmod.block k (by omega) fun e=>?_).trans (hS.mod.block k hk hn)⟩
    rcases lowH k e with q|q
    ·exact hn q
    ·omega
   ·have hp:ids[i]?=C.ids0[i]?:=hS.pre i hi;rw [← hp]
    have hlt:i<ids.length:=by
      by_cases hl:i<ids.length
      ·exact hl
      ·rw [List.getElem?_eq_none (by omega)]at hp
       have:=List.getElem?_eq_none_iff.1 hp.symm;have:=hS.n0;simp only [aftH]at hi;omega
    rw [List.getElem?_append_left hlt]
 exact⟨_,S',_,hout.put hd hfr (Den.ren hrr2 s hden),k3⟩
theorem callI_ok (hS:Sat C σ m ids a) (hGE:C.G=E.G) (hd:dOK d C.N=true) (hfr:fresh σ d=true) {f:FuncId} {args:List SV} {vs:List Value} {ic:Ic} (hic:ICOK E ic) {g:List SV→St→(SV→St→Prop)→Prop} (hg:ic f=some g) (hv:DenL m ids args vs)
   (h:g args σ fun s σ'=>deepS (setE { σ with heap:=σ'.heap,nb:=σ'.nb } d s) K) :
   FnOK E.P f∧Calls E.P f vs.toArray m.w fun e w'=>∃ v,e=.returned v∧Out C K (a.put d v) w':=by
 have hG:Glob E.G m:=hGE▸hS.glob;obtain⟨hfn,hc⟩:=hic f g hg args σ _ m ids vs hG (fun b hb=>(hS.S b hb).1) hS.len hS.heap hv h
 refine⟨hfn,hc.mono fun e w' ⟨v,S',ids',s,σ',he,hK,hmod,hle,hS',hpre,hln,hHO,hHT,hden⟩=>⟨v,he,?_⟩⟩
 rw [deepS_eq]at hK;have hlen:=hS.len;have hsz:=hS.mod.size;have lowH:∀ b,HT ids σ.heap b→C.T0 b∨C.w0.heap.size≤b:=fun b ⟨i,hb,hi,hf⟩=>hS.low i hb b hi hf
 have hll:ids.length≤ids'.length:=by
   by_cases h0:ids.length=0
   ·omega
   ·have h1:=hpre (ids.length-1) (by omega)
    rw [List.getElem?_eq_getElem (l:=ids) (by omega)]at h1
    have:=(List.getElem?_eq_some_iff.1 h1).1;omega
 have happ:ids'=ids++ids'.drop ids.length:=by
   apply List.ext_getElem?;intro i
   by_cases hi:i<ids.length
   ·rw [hpre i (by omega),List.getElem?_append_left hi]
   ·rw [List.getElem?_append_right (by omega),List.getElem?_drop]
    congr 1
    omega
 have hF:SatF C σ ⟨w',S'⟩ ids' a:=by
   rw [happ];exact(hS.toSatF.le hle).app _
 have hout:Sat C { σ with heap:=σ'.heap,nb:=σ'.nb } ⟨w',S'⟩ ids' a:=by
   refine⟨⟨hln,hHO,fun i hb b hi f1=>?_,fun b hb=>(hle.S b (hS.S0 b hb)).1,fun b hb=>?_,?_,hS.glob.le hle,hS.n0,fun i hi=>?_⟩,hF.of rfl rfl rfl⟩
   ·rcases hHT b ⟨i,hb,hi,f1⟩with q|q
    ·exact lowH b q
    ·exact .inr (by omega)
   ·obtain⟨q1,q2⟩:=hS' b hb;refine⟨q1,?_⟩;rcases q2 with q2|q2|q2
    ·exact(hS.S b q2).2
    ·exact .inr (lowH b q2)
    ·exact .inr (.inr (by omega))
   ·refine⟨hmod.os.trans hS.mod.os,hmod.tape.trans hS.mod.tape,hmod.output.trans hS.mod.output,Nat.le_trans hS.mod.size hmod.size,fun k hk hn=>(hmod.block k (by omega) fun e=>?_).trans (hS.mod.block k hk hn)⟩
    rcases lowH k e with q|q
    ·exact hn q
    ·omega
   ·have hp:ids[i]?=C.ids0[i]?:=hS.pre i hi;rw [← hp]
    have hlt:i<ids.length:=by
      by_cases hl:i<ids.length
      ·exact hl
      ·rw [List.getElem?_eq_none (by omega)]at hp
       have:=List.getElem?_eq_none_iff.1 hp.symm;have:=hS.n0;have hi:i<σ.n0:=hi;omega
    exact hpre i (by omega)
 exact⟨_,S',_,hout.put hd hfr hden,hK⟩
theorem callA_ok (hS:Sat C σ m ids a) (hGE:C.G=E.G) (hd:dOK d C.N=true) (hfr:fresh σ d=true) {f:FuncId} {args:List SV} {vs:List Value} {ic:Ic} (hic:ICOK E ic) (hv:DenL m ids args vs) (h:callA E ic σ d f args K) :
   FnOK E.P f∧Calls E.P f vs.toArray m.w fun e w'=>∃ v,e=.returned v∧Out C K (a.put d v) w':=by
 unfold callA at h;split at h
 ·rename_i g hg;exact callI_ok hS hGE hd hfr hic hg hv h
 ·rcases h with h|⟨fs,h⟩
  ·exact callH_ok hS hGE hd hfr hv h
  ·obtain⟨S',hle,hS'⟩:=hS.frz fs
   have hfr':fresh (frz σ fs) d=true:=by
     have e:=frz_gen (l:=fs) (σ:=σ);unfold fresh at hfr ⊢;rw [e.1,e.2];exact hfr
   exact callH_ok hS' hGE hd hfr' (vwL_den hS' (DenL.le hle _ hv)) h
end
end Go.SX
namespace Go.SX
open Go.XK Go.RowKit
section
variable {E:En} {C:Cx} {σ:St} {m:Mm} {ids:List Value} {a:Act} {π:Path} {d:Option Tmp} {ty:TypeId} {pos:String} {af:Array Edge} {g:Option (Nat×Bool)} {K:St→Prop}
theorem holds_nil:Holds a []:=fun _ hg=>by cases hg
theorem run_load_flat {P:Program} {T:TypeId} {b o:Nat} {v:Value} {w:World} (ht:Flat P T) (hc:w.cell? ⟨b,o,none⟩=some v):(loadVar T ⟨b,o,none⟩).run P w=.ok v w:=by
 unfold Flat at ht
 have hagg:(isAgg T).run P w=.ok false w:=by
   cases hu:P.underlying T with
   |none=>rw [hu]at ht;cases ht
   |some D =>
     rw [hu]at ht;cases D<;>first|(cases ht;done)|simp [isAgg,run_underlying hu]
 simp [loadVar,hagg,hc]
theorem run_load_agg {P:Program} {T:TypeId} {b o:Nat} {vs:List Value} {w:World} (ht:Aggr P T vs.length) (hc:At w b o vs):(loadVar T ⟨b,o,none⟩).run P w=.ok (.agg vs.toArray) w:=by
 have hr:=run_loadCells_at (P:=P) w b o vs hc;unfold Aggr at ht
 have hagg:(isAgg T).run P w=.ok true w∧(sizeOf T).run P w=.ok vs.length w:=by
   cases hu:P.underlying T with
   |none=>rw [hu]at ht;cases ht
   |some D =>
     rw [hu]at ht
     cases hi:P.info? T with
     |none=>rw [hi]at ht;cases D<;>cases ht
     |some i=>rw [hi]at ht;cases D<;>first|(cases ht;done)|(simp at ht;simp [isAgg,run_underlying hu,sizeOf,typeInfo,hi,ht])
 simp [loadVar,hagg.1,hagg.2,hr]
theorem cells_var {w0:World} {cs:List SV} {us:List Value} {b o:Nat} {T:TypeId} {s:SV} (hc:DenL m ids cs us) (_hat:At w0 b 0 us) (h:cellsAt E T cs o=.ok s):∃ v,Den m ids s v∧∀ w,At w b 0 us→(loadVar T ⟨b,o,none⟩).run E.P w=.ok v w:=by
 unfold cellsAt at h
 cases hk:kdOf E T with
 |bad=>rw [hk]at h;cases h
 |flat =>
   rw [hk]at h;simp only at h;split at h
   ·rename_i s' hn;cases h;rw [nth_eq]at hn;obtain⟨u,h1,h2⟩:=hc.get hn;refine⟨u,h2,fun w hat=>?_⟩
    have:=hat o u h1;rw [Nat.zero_add]at this;exact run_load_flat (kd_flat hk) this
   ·cases h
 |agg k =>
   rw [hk]at h;simp only at h;split at h
   ·rename_i hl;cases h
    have hl':(us.drop o |>.take k).length=k:=by
      have h1:=Nat.eq_of_beq_eq_true hl;rw [len_eq,tk_eq,dp_eq]at h1;have:=(DenL.take k (DenL.drop o hc)).length;rw [this,h1]
    have hd:=DenL.take k (DenL.drop o hc);rw [tk_eq,dp_eq];refine⟨.agg ((us.drop o).take k).toArray,by rw [Den];exact⟨_,rfl,hd⟩,fun w hat=>run_load_agg (by rw [hl'];exact kd_agg hk) ?_⟩
    intro j v hj;rw [List.getElem?_take]at hj;split at hj
    ·rw [List.getElem?_drop]at hj;have:=hat _ _ hj;rw [Nat.zero_add]at this;exact this
    ·cases hj
   ·cases h
theorem loc_var (hS:SatH C σ m ids) {i:Nat} {T:TypeId} {s:SV} {u:Value} (hd:Den m ids (.loc i 0) u) (h:loadE E σ T (.loc i 0)=.ok s):∃ b v,u=.pointer (some ⟨b,0,none⟩)∧Den m ids s v∧∀ w,Ext m.w w→(loadVar T ⟨b,0,none⟩).run E.P w=.ok v w:=by
 rw [Den]at hd;obtain⟨b,hid,rfl⟩:=hd;simp only [loadE]at h;split at h
 ·rename_i T' cs hl;obtain⟨b',vs,h1,h2,h3⟩:=hS.heap.sat i _ hl;rw [hid]at h1;cases h1;obtain⟨v,h4,h5⟩:=cells_var h3 h2.at h;exact⟨b,v,rfl,h4,fun w hw=>h5 w (at_same h2.at (hw.block b h2.lt))⟩
 ·rename_i T' cs hl;obtain⟨b',vs,h1,h2,h3,_⟩:=hS.heap.sat i _ hl;rw [hid]at h1;cases h1;obtain⟨v,h4,h5⟩:=cells_var h3 h2.at h;exact⟨b,v,rfl,h4,fun w hw=>h5 w (at_same h2.at (hw.block b h2.lt))⟩
 ·rename_i T' N c l hl;split at h
  ·rename_i k hk _;split at h
   ·rename_i hkk;cases h;have hkk:=Nat.eq_of_beq_eq_true hkk;obtain⟨b',uss,h1,h2,h3,h4⟩:=hS.heap.sat i _ hl;rw [hid]at h1;cases h1;refine⟨b,.agg uss.flatten.toArray,rfl,by rw [Den];exact⟨uss,rfl,h3,h4⟩,fun w hw=>run_load_agg ?_ (at_same h2.at (hw.block b h2.lt))⟩
    rw [h3.flat,h4,← hkk];exact kd_agg hk
   ·cases h
  ·cases h
 ·cases h
theorem run_invoke {P:Program} {ro:Operand} {n:String} {args0:Array Operand} {ts:Array TypeId} {t:TypeId} {u v:Value} {ls:List Value} {f:FuncId} {w:World} (e1:a.eval ro=.iface t u) (e3:args0.map a.eval=ls.toArray) (hf:FnOK P f)
   (hm:(method (P.types.size+Made.depth) t u n).run P w=.ok (f,v) w):(execOp a.eval ⟨d,.call ⟨.invoke ro n,args0,ts⟩,ty,pos,af,g⟩).run P w=.ok (.enter f (v::ls).toArray) w:=by
 unfold FnOK at hf
 cases hfn:P.funcs[f]? with
 |none=>rw [hfn]at hf;cases hf
 |some fn =>
   rw [hfn]at hf;simp only [Bool.and_eq_true,Bool.not_eq_true']at hf;obtain⟨h1,h2⟩:=hf;have h3:fn.body≠none:=by intro e;rw [e]at h2;cases h2
   have h4:fn.name ≠ "runtime.NumGoroutine" := by simpa using h1
   simp [execOp,resolve,invoke,callMethod,callFunc,e1,e3,hm,hfn,h3,h4]
theorem callee_spec (hS:Sat C σ m ids a) (hG:Glob E.G m) (hh:Holds a π) {c:Call} {f:FuncId} {args:List SV} (h:callee E σ π c=some (f,args)) :
   ∃ vs,DenL m ids args vs∧(FnOK E.P f→∀ w,Ext m.w w→(execOp a.eval ⟨d,.call c,ty,pos,af,g⟩).run E.P w=.ok (.enter f vs.toArray) w):=by
 unfold callee at h;split at h
 ·rename_i fo hc;split at h
  ·rename_i f' x y l he hl;cases h;obtain⟨v,h1,_,h2⟩:=hS.toSatF.ev hG hh he;obtain⟨ls,h3,h4⟩:=hS.toSatF.evs hG hh hl;rw [Den]at h2;obtain⟨us,vs,rfl,h5,h6⟩:=h2;refine⟨us++(ls++vs),h5.append (h4.append h6),fun hf w _=>?_⟩
   obtain⟨callee,args,ts⟩:=c;simp only at hc;subst hc;have hr:=run_call_func (P:=E.P) (d:=d) (ty:=ty) (pos:=pos) (af:=af) (g:=g) (ts:=ts) (okx_envA a) hf h1 h3 w;rw [hr];simp
  ·cases h
 ·rename_i ro n hc;obtain⟨callee,args0,ts⟩:=c;simp only at hc;subst hc;split at h
  ·rename_i t x l he hl;obtain⟨v,_,e1,h2⟩:=hS.toSatF.ev hG hh he;obtain⟨ls,h3,h4⟩:=hS.toSatF.evs hG hh hl;have e3:args0.map a.eval=ls.toArray:=Array.ext' (by simpa using (okx_envA a).evs h3)
   rw [Den]at h2;obtain⟨u,rfl,h5⟩:=h2;split at h
   ·rename_i f' hM;cases h;refine⟨u::ls,by rw [DenL];exact⟨u,ls,rfl,h5,h4⟩,fun hf w _=>run_invoke e1 e3 hf (E.hM _ _ _ _ hM u w)⟩
   ·rename_i f' T hM;split at h
    ·rename_i i;split at h
     ·rename_i s hs;cases h;obtain⟨b,v,rfl,k1,k2⟩:=loc_var hS.toSatH h5 hs;exact⟨v::ls,by rw [DenL];exact⟨v,ls,rfl,k1,h4⟩,fun hf w hw=>run_invoke e1 e3 hf (E.hM _ _ _ _ hM b v w (k2 w hw))⟩
     ·cases h
    ·cases h
   ·cases h
  ·cases h
 ·cases h
theorem exu_st {P:Program} {v:Value} {w:World} {r:Result Next} {Q:Value→World→Prop} (h:exUpon P v w r) (hQ:∀ w',Ext w w'→Q v w'):stUpon P (fun u w'=>Ext w w'∧Q u w') r:=by
 cases r with
 |ok n w' =>
   cases n<;>simp only [exUpon]at h<;>simp only [stUpon]
   case value u=>obtain⟨rfl,h1⟩:=h;exact⟨h1,hQ _ h1⟩
   case skip=>obtain⟨h0,h1⟩:=h;rw [← h0];exact⟨h1,hQ _ h1⟩
   case enter f args =>
     obtain⟨rfl,h1⟩:=h;exact h1.mono fun e w'' ⟨h2,h3⟩=>⟨v,h2,h3,hQ _ h3⟩
 |halt x w'=>simp only [exUpon]at h
theorem nilU_ok (hS:Sat C σ m ids a) (hG:Glob E.G m) (hd:dOK d C.N=true) (hfr:fresh σ d=true) {op:BinOp} {T ty2:TypeId} {x y:Operand} {s:SV} {e:Bool} {P:Prop}
   (hx:σ.ev E [] x=some s) (hy:σ.ev E [] y=some (.v (.slice none 0 0))) (hP:∀ u,Den m ids s u→∃ ad n cp,u=.slice ad n cp∧(ad.isNone=true→P)) (he:eqOp op=some e) (hn:isNo (nilB E e T (some true))=false) (h:∀ b:Bool,(b=true→P)→K (setE σ d (.b (xorB e b)))):StE E C K a m.w ⟨d,.binOp op T x y ty2,ty,pos,af,g⟩:=by
 have hh:Holds a []:=holds_nil;obtain⟨u,h1,_,h2⟩:=hS.toSatF.ev hG hh hx;obtain⟨v,h3,_,h4⟩:=hS.toSatF.ev hG hh hy;cases den_v h4;obtain⟨b,n,cp,rfl,hb⟩:=hP u h2;have hp:=nilB_ok (E:=E) (m:=m) (ids:=ids) (a:=a) (d:=d) (ty:=ty) (pos:=pos) (af:=af) (g:=g) (T:=T) (T':=ty2) (z:=some b.isNone) he h1 h3 rfl
 have hq:nilB E e T (some b.isNone)=.ok (.b (xorB e b.isNone)):=by
   unfold nilB at hn ⊢;split at hn
   ·rename_i hT hz;cases hz;rw [hT]
   ·cases hn
 rw [hq]at hp;obtain⟨v,h5,_,h6⟩:=hp;unfold StE;refine exu_st (h6 m.w (Ext.refl _)) fun w' hw'=>?_
 refine⟨_,m.S,ids,(hS.ext hw').put hd hfr (Den.le (Ext.le (S:=m.S) hw' fun b hb=>(hS.S b hb).1) _ h5),h _ hb⟩
theorem nil_lst {z:Option Bool} {c:Nat} {l:List (TabT c)} {u:Value} (h2:Den m ids (.lst z c l) u):∃ ad n cp,u=.slice ad n cp∧(ad.isNone=true→l=[]):=by
 obtain⟨b,cp,rfl,_⟩:=lst_shape h2;refine⟨_,_,_,rfl,fun hb=>?_⟩
 rw [Den]at h2;obtain⟨uss,⟨_,hr⟩,_⟩:=h2;rcases hr with ⟨_,h0⟩|⟨b',o,c',h5,_⟩
 ·exact List.eq_nil_of_length_eq_zero h0
 ·cases h5;cases hb
theorem nil_osl (hS:Sat C σ m ids a) {i c:Nat} {T:TypeId} {z:Option Bool} {l:List (TabT c)} {u:Value} (hi:lk σ.heap i=some (.arr T z c l)) (h2:Den m ids (.osl i) u):∃ ad n cp,u=.slice ad n cp∧(ad.isNone=true→l=[]):=by
 rw [Den]at h2;obtain⟨v,uss,h3,h4,_⟩:=hS.heap.sat i _ hi;rw [h2.1]at h3;cases h3;rcases h4.reads.2 with ⟨⟨ad,rfl⟩,h0⟩|⟨b',o,c',rfl,_⟩
 ·exact⟨_,_,_,rfl,fun _=>List.eq_nil_of_length_eq_zero h0⟩
 ·exact⟨_,_,_,rfl,fun hb=>by cases hb⟩
theorem nil_sub {i c:Nat} {lo hi:Int} {u:Value} (h2:Den m ids (.sub i c lo hi) u):∃ ad n cp,u=.slice ad n cp∧(ad.isNone=true→lo=hi):=by
 rw [Den]at h2;obtain⟨ad,n,cp,_,h0,h1,h3,h4,_,_,rfl⟩:=h2;refine⟨_,_,_,rfl,fun hb=>?_⟩
 by_cases hn:0<n
 ·obtain⟨b,q,rfl⟩:=h4 hn;split at hb<;>cases hb
 ·omega
theorem lend_ok (hS:Sat C σ m ids a) (hd:dOK d C.N=true) (hfr:fresh σ d=true) {T:TypeId} {i:Nat} {n:Int} {x:Operand} {u:Value} (hx:XK.ev (envA a) x=some u) (hs:Den m ids (.noe i n) u) (h:vcLend E σ d T i n K):StB E C K a m.w ⟨d,.load T x,ty,pos,af,g⟩:=by
 unfold vcLend at h;split at h
 ·rename_i T1 T2 c' c ls hk hn0 hi;split at h
  ·rename_i c2 l hes;obtain⟨ids1,h1,hden,e1,e2,e3,e4,e5⟩:=hS.retN i;have hs:=hden _ _ hs;rw [Den]at hs;obtain⟨b,q,nn,cp,vs0,hid,p0,p1,rfl⟩:=hs;obtain⟨v,vs,us,q1,q2⟩:=h1.heap.sat i _ hi;obtain⟨rfl,rfl⟩:=tup_inj hid q1;obtain⟨_,_,en,_⟩:=q2.out.reads.len;have hnn:nn=ls.length:=by cases en;rfl
   subst hnn;have hlt:n.toNat<ls.length:=by omega
   obtain⟨u0,r1,r2,_⟩:=q2.row n.toNat _ (List.getElem?_eq_getElem hlt) (fun _ _ e=>by cases e)
   obtain⟨b',q',cp',e6,_,_,hat⟩:=q2.out.reads.has (by omega)
   cases e6;refine StE.b ?_;unfold StE;refine exu_st (Exa.load (wc:=m.w) (kd_flat hk) hx (hat _ u0 r2) a _ (okx_envA a) m.w (Ext.refl _)) fun w' hw'=>?_
   obtain⟨ids',u1,v1,vs1,us1,k1,k2,k3,k4,k5⟩:=(h1.ext hw').lend (j:=σ.nb) e4.symm (by rw [e5];exact Nat.le_of_ble_eq_true hn0) hi p0 hlt hes
   have hu1:u1=u0:=by
     obtain⟨rfl,_⟩:=tup_inj k1 hid;have r9:=k2.reads;obtain⟨b2,q2',cp2,e7,_,_,hat2⟩:=r9.has (by omega)
     cases e7;have a1:=hat2 _ u1 k3;have a2:=hat _ u0 r2;have hbl:=own_lt (b:=b) q2.out rfl;rw [World.cell?_of_block (w:=m.w) (w':=w') (a:=⟨b,q+n.toNat,none⟩) (hw'.block b hbl)]at a1;rw [a2]at a1;exact(Option.some.inj a1).symm
   subst hu1;exact⟨_,m.S,ids',k5.put hd (by unfold fresh at hfr ⊢;simp only [newN,setH];rw [e2,e3];exact hfr) k4,h⟩
  ·cases h
 ·cases h
theorem DenN.le {m m':Mm} (hm:m.le m'):∀ {ps:List (Nat×SV)} {vs:List (Nat×Value)},DenN m ids ps vs→DenN m' ids ps vs
 |[],_,h=>by rw [DenN]at h ⊢;exact h
 |(i,s)::r,_,h=>by rw [DenN]at h ⊢;obtain⟨v,vs',h1,h2,h3⟩:=h;exact⟨v,vs',h1,Den.le hm s h2,DenN.le hm h3⟩
theorem vwP_den {m:Mm} {σ:St} (hS:Sat C σ m ids a):∀ {ps:List (Nat×SV)} {vs:List (Nat×Value)},DenN m ids ps vs→DenN m ids (vwP σ ps) vs
 |[],_,h=>by rw [vwP];exact h
 |(i,s)::r,_,h=>by rw [vwP];rw [DenN]at h ⊢;obtain⟨v,vs',h1,h2,h3⟩:=h;exact⟨v,vs',h1,vw_den hS h2,vwP_den hS h3⟩
theorem vcL_ok {ic:Ic} {k:Nat} (hic:ICOK E ic) (hS:Sat C σ m ids a) (hGE:C.G=E.G) (hd:dOK d C.N=true) (hfr:fresh σ d=true) {o:Op} (h:vcL E ic k σ d o K) :
   StB E C K a m.w ⟨d,o,ty,pos,af,g⟩∧(k=2→kL 2 o=true→StE E C K a m.w ⟨d,o,ty,pos,af,g⟩):=by
 have hG:Glob E.G m:=hGE▸hS.glob;have hh:Holds a []:=holds_nil;have both:∀ {o:Op},StE E C K a m.w ⟨d,o,ty,pos,af,g⟩→StB E C K a m.w ⟨d,o,ty,pos,af,g⟩∧(k=2→kL 2 o=true→StE E C K a m.w ⟨d,o,ty,pos,af,g⟩):=fun h=>⟨h.b,fun _ _=>h⟩
 unfold vcL at h;split at h
 ·exact both (alloc_ok (ic:=ic) (k:=k) hS hd hfr h)
 ·exact both (box_ok (ic:=ic) (k:=k) hS hG hd hfr h)
 ·refine⟨?_,fun _ h=>by cases h⟩
  split at h
  ·rename_i p s hp hs;obtain⟨u,h1,_,h2⟩:=hS.toSatF.ev hG hh hp;obtain⟨v,h3,_,h4⟩:=hS.toSatF.ev hG hh hs;exact store_ok hS hd hfr h1 h3 h2 h4 h
  ·cases h
 ·refine⟨?_,fun _ h=>by cases h⟩
  split at h
  ·rename_i i n hp;obtain⟨u,h1,_,h2⟩:=hS.toSatF.ev hG hh hp;exact lend_ok hS hd hfr h1 h2 h
  ·cases h
 ·split at h
  ·rename_i n k hp hs;obtain⟨u,h1,_,h2⟩:=hS.toSatF.ev hG hh hp;obtain⟨v,h3,_,h4⟩:=hS.toSatF.ev hG hh hs;rw [Den]at h2 h4;obtain⟨rfl,_⟩:=h2;obtain⟨rfl,_⟩:=h4;exact both (make_ok hS hd hfr h1 h3 h)
  ·cases h
 ·split at h
  ·rename_i l hl;obtain⟨vs,h1,h2⟩:=hS.toSatF.pevs hG hh hl;split at h
   ·obtain⟨S',q1,q2⟩:=hS.frz (frP σ l);have hfr':fresh (frz σ (frP σ l)) d=true:=by unfold fresh at hfr ⊢;rw [frz_gen.1,frz_gen.2];exact hfr
    exact both (buildS_ok (m:=⟨m.w,S'⟩) q2 hd hfr' h1 (vwP_den q2 (DenN.le q1 h2)) h)
   ·exact both (buildF_ok hS hd hfr h1 h2 h)
  ·cases h
 ·exact both (map_ok hS hd hfr h)
 ·refine⟨?_,fun _ h=>by cases h⟩
  split at h
  ·rename_i p k s hp hk hs;obtain⟨u,h1,_,h2⟩:=hS.toSatF.ev hG hh hp;obtain⟨v,h3,_,h4⟩:=hS.toSatF.ev hG hh hk;obtain⟨q,h5,_,h6⟩:=hS.toSatF.ev hG hh hs;exact(put_ok hS hd hfr h1 h3 h5 h2 (unav_den h4) (unav_den h6) h).1
  ·cases h
 ·refine⟨?_,fun _ h=>by cases h⟩
  split at h
  ·rename_i p k s hp hk hs;obtain⟨u,h1,_,h2⟩:=hS.toSatF.ev hG hh hp;obtain⟨v,h3,_,h4⟩:=hS.toSatF.ev hG hh hk;obtain⟨q,h5,_,h6⟩:=hS.toSatF.ev hG hh hs;exact(put_ok hS hd hfr h1 h3 h5 h2 (unav_den h4) (unav_den h6) h).2
  ·cases h
 ·split at h
  ·rename_i s hst hs;obtain⟨u,h1,_,h2⟩:=hS.toSatF.ev hG hh hs;rcases h with h|h
   ·exact both (bytes_ok hS hd hfr hst h1 h2 h)
   ·exact both (bytesO_ok hS hd hfr hst h1 h2 h)
  ·rename_i s hst hs;obtain⟨u,h1,_,h2⟩:=hS.toSatF.ev hG hh hs;split at h
   ·cases h
   ·rename_i hk;exact⟨mark_ok hS hd hfr h1 h2 h,fun e=>by subst e;simp at hk⟩
  ·cases h
 ·refine⟨?_,fun _ h=>by cases h⟩
  rename_i xs ts;split at h
  ·rename_i x y T U hx hT;split at h
   ·rename_i p s hp hs hTU;have hTU:=Nat.eq_of_beq_eq_true hTU;subst hTU;have e1:xs = #[x,y]:=Array.ext' (by simpa using hx)
    have e2:ts = #[T,T]:=Array.ext' (by simpa using hT)
    subst e1 e2;obtain⟨u,h1,_,h2⟩:=hS.toSatF.ev hG hh hp;obtain⟨v,h3,_,h4⟩:=hS.toSatF.ev hG hh hs;obtain⟨ids',q1,q2,q3,q4,_⟩:=subz_ok hS h2;exact append_ok (m:=m) q1 hd (by unfold fresh at hfr ⊢;rw [q3,q4];exact hfr) h1 h3 q2 (fun c l2 hl=>view_ok hS hl h4) h
   ·rename_i p t hp hs hTU;split at h
    ·rename_i hst;have e1:xs = #[x,y]:=Array.ext' (by simpa using hx)
     have e2:ts = #[T,U]:=Array.ext' (by simpa using hT)
     subst e1 e2;obtain⟨u,h1,_,h2⟩:=hS.toSatF.ev hG hh hp;obtain⟨v,h3,_,h4⟩:=hS.toSatF.ev hG hh hs;obtain⟨ids',q1,q2,q3,q4,_⟩:=subz_ok hS h2;exact append_okS (m:=m) q1 hd (by unfold fresh at hfr ⊢;rw [q3,q4];exact hfr) h1 h3 q2 h4 (isStr_spec hst) h
    ·cases h
   ·cases h
  ·cases h
 ·refine⟨?_,fun _ h=>by cases h⟩
  rename_i xs ts;split at h
  ·rename_i x y T U hx hT;split at h
   ·rename_i p s hp hs;have e1:xs = #[x,y]:=Array.ext' (by simpa using hx)
    have e2:ts = #[T,U]:=Array.ext' (by simpa using hT)
    subst e1 e2;obtain⟨u,h1,_,h2⟩:=hS.toSatF.ev hG hh hp;obtain⟨v,h3,_,h4⟩:=hS.toSatF.ev hG hh hs;split at h
    ·exact copyS_ok hS hd hfr h1 h3 h2 h4 h
    ·exact copy_ok hS hd hfr h1 h3 h2 h4 h
    ·cases h
   ·cases h
  ·cases h
 ·refine⟨?_,fun _ h=>by cases h⟩
  rename_i xs ts;split at h
  ·rename_i x T hx hT;split at h
   ·rename_i p hp;have e1:xs = #[x]:=Array.ext' (by simpa using hx)
    have e2:ts = #[T]:=Array.ext' (by simpa using hT)
    subst e1 e2;obtain⟨u,h1,_,h2⟩:=hS.toSatF.ev hG hh hp;exact clear_ok hS hd hfr h1 h2 h
   ·cases h
  ·cases h
 ·refine⟨?_,fun _ h=>by cases h⟩
  rename_i c _ _;split at h
  ·rename_i f args hc;obtain⟨vs,h1,h2⟩:=callee_spec (d:=d) (ty:=ty) (pos:=pos) (af:=af) (g:=g) hS hG hh hc;obtain⟨h3,h4⟩:=callA_ok hS hGE hd hfr hic h1 h;unfold StB;rw [h2 h3 _ (Ext.refl _)];exact h4
  ·cases h
 ·split at h
  ·rename_i z c l hx hy;split at h
   ·rename_i e he;split at h
    ·rename_i hn;exact both (nilU_ok hS hG hd hfr hx hy (fun u hu=>nil_lst hu) he hn h)
    ·cases h
   ·cases h
  ·rename_i i hx hy;split at h
   ·rename_i T' z c l e hi he;split at h
    ·rename_i hn;exact both (nilU_ok hS hG hd hfr hx hy (fun u hu=>nil_osl hS hi hu) he hn h)
    ·cases h
   ·cases h
  ·rename_i i c lo hi hx hy;split at h
   ·rename_i e he;split at h
    ·rename_i hn;exact both (nilU_ok hS hG hd hfr hx hy (fun u hu=>nil_sub hu) he hn h)
    ·cases h
   ·cases h
  ·cases h
 ·cases h
section
variable {m m':Mm} {ids ids':List Value}
mutual
theorem gval_spec:∀ (s:SV) {v v':Value},gv s=true→Den m ids s v→Den m' ids' s v'→v=v'
 |.i n,v,v',_,h,h'=>by rw [Den]at h h';rw [h.1,h'.1]
 |.b n,v,v',_,h,h'=>by rw [Den]at h h';rw [h,h']
 |.w8 n,v,v',_,h,h'=>by rw [Den]at h h';rw [h,h']
 |.w32 n,v,v',_,h,h'=>by rw [Den]at h h';rw [h,h']
 |.w64 n,v,v',_,h,h'=>by rw [Den]at h h';rw [h,h']
 |.str n,v,v',_,h,h'=>by rw [Den]at h h';rw [h.1,h'.1]
 |.tup l,v,v',hg,h,h'=>by
   rw [Den]at h h';obtain⟨us,rfl,h1⟩:=h;obtain⟨us',rfl,h2⟩:=h';rw [gvalL_spec l (by rw [gv]at hg;exact hg) h1 h2]
 |.agg l,v,v',hg,h,h'=>by
   rw [Den]at h h';obtain⟨us,rfl,h1⟩:=h;obtain⟨us',rfl,h2⟩:=h';rw [gvalL_spec l (by rw [gv]at hg;exact hg) h1 h2]
 |.un,_,_,h,_,_=>by simp [gv]at h
 |.v _,_,_,h,_,_=>by simp [gv]at h
 |.loc ..,_,_,h,_,_=>by simp [gv]at h
 |.osl _,_,_,h,_,_=>by simp [gv]at h
 |.nso _,_,_,h,_,_=>by simp [gv]at h
 |.noe ..,_,_,h,_,_=>by simp [gv]at h
 |.sub ..,_,_,h,_,_=>by simp [gv]at h
 |.oel ..,_,_,h,_,_=>by simp [gv]at h
 |.vel ..,_,_,h,_,_=>by simp [gv]at h
 |.vsl ..,_,_,h,_,_=>by simp [gv]at h
 |.av ..,_,_,h,_,_=>by simp [gv]at h
 |.lst ..,_,_,h,_,_=>by simp [gv]at h
 |.fp ..,_,_,h,_,_=>by simp [gv]at h
 |.fvec ..,_,_,h,_,_=>by simp [gv]at h
 |.fsl ..,_,_,h,_,_=>by simp [gv]at h
 |.clo ..,_,_,h,_,_=>by simp [gv]at h
 |.ifc ..,_,_,h,_,_=>by simp [gv]at h
theorem gvalL_spec:∀ (l:List SV) {us us':List Value},gvL l=true→DenL m ids l us→DenL m' ids' l us'→us=us'
 |[],_,_,_,h,h'=>by rw [h.nil,h'.nil]
 |s::r,us,us',hg,h,h'=>by
   rw [DenL]at h h';obtain⟨u,q,rfl,h1,h2⟩:=h;obtain⟨u',q',rfl,h3,h4⟩:=h';rw [gvL]at hg;split at hg
   ·rename_i h0;rw [gval_spec s h0 h1 h3,gvalL_spec r hg h2 h4]
   ·cases hg
end
end
section
variable {m m':Mm} {ids ids':List Value}
mutual
theorem gval_move:∀ (s:SV) {v:Value},gv s=true→Den m ids s v→Den m' ids' s v
 |.i n,v,_,h=>by rw [Den]at h ⊢;exact h
 |.b n,v,_,h=>by rw [Den]at h ⊢;exact h
 |.w8 n,v,_,h=>by rw [Den]at h ⊢;exact h
 |.w32 n,v,_,h=>by rw [Den]at h ⊢;exact h
 |.w64 n,v,_,h=>by rw [Den]at h ⊢;exact h
 |.str n,v,_,h=>by rw [Den]at h ⊢;exact h
 |.tup l,v,hg,h=>by
   rw [Den]at h ⊢;obtain⟨us,rfl,h1⟩:=h;exact⟨us,rfl,gvalL_move l (by rw [gv]at hg;exact hg) h1⟩
 |.agg l,v,hg,h=>by
   rw [Den]at h ⊢;obtain⟨us,rfl,h1⟩:=h;exact⟨us,rfl,gvalL_move l (by rw [gv]at hg;exact hg) h1⟩
 |.un,_,h,_=>by simp [gv]at h
 |.v _,_,h,_=>by simp [gv]at h
 |.loc ..,_,h,_=>by simp [gv]at h
 |.osl _,_,h,_=>by simp [gv]at h
 |.nso _,_,h,_=>by simp [gv]at h
 |.noe ..,_,h,_=>by simp [gv]at h
 |.sub ..,_,h,_=>by simp [gv]at h
 |.oel ..,_,h,_=>by simp [gv]at h
 |.vel ..,_,h,_=>by simp [gv]at h
 |.vsl ..,_,h,_=>by simp [gv]at h
 |.av ..,_,h,_=>by simp [gv]at h
 |.lst ..,_,h,_=>by simp [gv]at h
 |.fp ..,_,h,_=>by simp [gv]at h
 |.fvec ..,_,h,_=>by simp [gv]at h
 |.fsl ..,_,h,_=>by simp [gv]at h
 |.clo ..,_,h,_=>by simp [gv]at h
 |.ifc ..,_,h,_=>by simp [gv]at h
theorem gvalL_move:∀ (l:List SV) {us:List Value},gvL l=true→DenL m ids l us→DenL m' ids' l us
 |[],_,_,h=>by rw [h.nil,DenL]
 |s::r,us,hg,h=>by
   rw [DenL]at h ⊢;obtain⟨u,q,rfl,h1,h2⟩:=h;rw [gvL]at hg;split at hg
   ·rename_i h0;exact⟨u,q,rfl,gval_move s h0 h1,gvalL_move r hg h2⟩
   ·cases hg
end
end
theorem Sat.grow {w':World} {S':Nat→Prop} (h:Sat C σ m ids a) (he:Ext m.w w') (hle:m.le ⟨w',S'⟩) (hS':∀ b,S' b→b<w'.heap.size∧(m.S b∨m.w.heap.size≤b)):Sat C σ ⟨w',S'⟩ ids a:=by
 have h1:=h.ext he;have hsz:=h.mod.size;refine⟨⟨h.len,h.heap.le hle fun i hb b hi hf=>⟨he.block b (fp_lt (h.heap.sat i hb hi) hf),fun hs=>?_⟩,h.low,fun b hb=>(hle.S b (h.S0 b hb)).1,fun b hb=>⟨(hS' b hb).1,?_⟩,h1.mod,h.glob.le hle,h.n0,h.pre⟩,h.toSatF.le hle⟩
 ·rcases(hS' b hs).2 with q|q
  ·exact h.heap.fpS i hb b hi hf q
  ·have:b<m.w.heap.size:=fp_lt (h.heap.sat i hb hi) hf;omega
 ·rcases(hS' b hb).2 with q|q
  ·exact(h.S b q).2
  ·exact .inr (.inr (by omega))
def KRes (E:En) (C:Cx) (σ':St) (m:Mm) (ids:List Value) (a:Act) (o:Oper) (s:SV):Nat→Prop
 |0=>∃ v,Den m ids s v∧∀ w,Ext m.w w→exUpon E.P v w ((execOp a.eval o).run E.P w)
 |1=>∃ v,Den m ids s v∧∀ w,silUpon v w ((execOp a.eval o).run E.P w)
 |_+2=>∀ w,Ext m.w w→stUpon E.P (fun v w'=>Ext w w'∧∃ S',Sat C σ' ⟨w',S'⟩ ids a∧Den ⟨w',S'⟩ ids s v) ((execOp a.eval o).run E.P w)
theorem kres_pure (hS:Sat C σ m ids a) {o:Oper} {k:Nat} (hk:kP E k o.op=true) {s:SV} (h:PureV E m ids a o s):KRes E C σ m ids a o s k:=by
 obtain⟨v,h1,h2,h3⟩:=h
 match k with
 |0=>exact⟨v,h1,h3⟩
 |1=>exact⟨v,h1,h2 (by simpa [kP] using hk)⟩
 |k+2 =>
   intro w hw;refine exu_st (h3 w hw) fun w' hw'=>⟨m.S,hS.ext (hw.trans hw'),Den.le (Ext.le (S:=m.S) (hw.trans hw') fun b hb=>(hS.S b hb).1) s h1⟩
theorem PRok.imp {r:PR} {Q Q':SV→Prop} (hr:PRok r Q) (h:∀ s,Q s→Q' s):PRok r Q':=hr.mono h
theorem prok_all {ι:Type} {r:PR} {Q:ι→SV→Prop} (i0:ι) (h:∀ i,PRok r (Q i)):PRok r (fun s=>∀ i,Q i s):=by
 cases r with
 |ok s=>exact h
 |ob p s=>exact fun hp i=>h i hp
 |hy p s=>exact⟨(h i0).1,fun i=>(h i).2⟩
 |hb p q s=>exact⟨(h i0).1,fun hp i=>(h i).2 hp⟩
 |ar p x=>exact⟨(h i0).1,fun i=>(h i).2⟩
 |ap p q x=>exact⟨(h i0).1,fun hp i=>(h i).2 hp⟩
 |no=>exact True.intro
theorem findF_ok:∀ (DB:List (Fact E)) {f:FuncId} {args:List SV} {r:PR},findF DB f args=r→isNo r=false→∃ F:Fact E,F.f=f∧F.app args=r
 |[],_,_,_,h,hn=>by simp only [findF]at h;subst h;cases hn
 |F::q,f,args,r,h,hn=>by
   simp only [findF]at h;split at h
   ·rename_i hf;have hf:=Nat.eq_of_beq_eq_true hf;split at h
    ·exact findF_ok q h hn
    ·exact⟨F,hf,h⟩
   ·exact findF_ok q h hn
theorem gpr_all {r:PR} (h:gPR r=true) {Q:SV→Prop} (hr:PRok r Q):PRok r (fun s=>gv s=true∧Q s):=by
 cases r with
 |ok s=>exact⟨h,hr⟩
 |ob p s=>exact fun hp=>⟨h,hr hp⟩
 |hy p s=>exact⟨hr.1,h,hr.2⟩
 |hb p q s=>exact⟨hr.1,fun hp=>⟨h,hr.2 hp⟩⟩
 |ar p x=>exact⟨hr.1,rfl,hr.2⟩
 |ap p q x=>exact⟨hr.1,fun hp=>⟨rfl,hr.2 hp⟩⟩
 |no=>exact True.intro
theorem calls_some {P:Program} {f:FuncId} {args:Array Value} {w:World} {R:Ending→World→Prop} (h:Calls P f args w R):∃ e w',R e w':=by
 obtain⟨e,w',_,hR,_⟩:=h [];exact⟨e,w',hR⟩
theorem kres_fact (hS:Sat C σ m ids a) (hGE:C.G=E.G) (hh:Holds a π) {F:Fact E} {c:Call} {args:List SV} {k:Nat} (hc:callee E σ π c=some (F.f,args)) (hk:kF k (F.app (vwL (frz σ (frL σ args)) args))=true)
   {S':Nat→Prop} (hle:m.le ⟨m.w,S'⟩) (hS1:Sat C (frz σ (frL σ args)) ⟨m.w,S'⟩ ids a) :
   PRok (F.app (vwL (frz σ (frL σ args)) args)) fun s=>KRes E C (frz σ (frL σ args)) ⟨m.w,S'⟩ ids a ⟨d,.call c,ty,pos,af,g⟩ s k:=by
 obtain⟨vs,h1,h2⟩:=callee_spec (d:=d) (ty:=ty) (pos:=pos) (af:=af) (g:=g) hS (hGE▸hS.glob) hh hc;have h2:=h2 F.fn;have h3:=vwL_den hS1 (DenL.le hle args h1);have hSb:=fun b hb=>(hS1.S b hb).1
 have key:=prok_all (ι:={ w:World // Ext m.w w }) (Q:=fun w s=>Calls E.P F.f vs.toArray w.1 fun e w'=>∃ v S2,e=.returned v∧Ext w.1 w'∧(⟨w.1,S'⟩:Mm).le ⟨w',S2⟩∧(∀ b,S2 b→b<w'.heap.size∧(S' b∨w.1.heap.size≤b))∧Den ⟨w',S2⟩ [] s v) ⟨m.w,Ext.refl _⟩ fun⟨w,hw⟩=>by
   have hl:(⟨m.w,S'⟩:Mm).le ⟨w,S'⟩:=Ext.le (S:=S') hw hSb;exact F.ok _ ⟨w,S'⟩ ids vs ((hGE▸hS1.glob:Glob E.G _).le hl) (fun b hb=>Nat.lt_of_lt_of_le (hSb b hb) hw.size) (DenL.le hl _ h3)
 match k with
 |0 =>
   refine(gpr_all hk key).imp fun s ⟨hg,hall⟩=>?_
   obtain⟨e,w0,v0,S0,_,_,_,_,hd0⟩:=calls_some (hall ⟨m.w,Ext.refl _⟩);refine⟨v0,gval_move s hg hd0,fun w hw=>?_⟩
   rw [h2 w hw];exact⟨rfl,(hall ⟨w,hw⟩).mono fun e w' ⟨v,S2,he,hx,_,_,hd⟩=>⟨by rw [he,gval_spec s hg hd hd0],hx⟩⟩
 |1=>exact absurd hk (by simp [kF])
 |k+2 =>
   refine key.imp fun s hall=>fun w hw=>?_
   rw [h2 w hw];refine(hall ⟨w,hw⟩).mono fun e w' ⟨v,S2,he,hx,hl,hb,hd⟩=>⟨v,he,hx,S2,?_,?_⟩
   ·exact(hS1.ext hw).grow hx hl hb
   ·have:=Den.app (ids:=[]) ids s hd;simpa using this
theorem prOf_ok (hS:Sat C σ m ids a) (hGE:C.G=E.G) {DB:Db E} {k:Nat} {o:Oper} {r:PR} {σ':St} (h:prOf E DB σ π k o.op=(r,σ')):∃ S',m.le ⟨m.w,S'⟩∧Sat C σ' ⟨m.w,S'⟩ ids a∧(Holds a π→PRok r fun s=>KRes E C σ' ⟨m.w,S'⟩ ids a o s k):=by
 have hG:Glob E.G m:=hGE▸hS.glob
 have plain:(match kP E k o.op with
     |true=>(evP E σ π o.op,σ)
     |false=>(.no,σ))=(r,σ')→∃ S',m.le ⟨m.w,S'⟩∧Sat C σ' ⟨m.w,S'⟩ ids a∧(Holds a π→PRok r fun s=>KRes E C σ' ⟨m.w,S'⟩ ids a o s k):=fun h=>by
   split at h
   ·rename_i hk;cases h;exact⟨m.S,Mm.le.refl m,hS,fun hh=>(evP_ok (d:=o.dst) (ty:=o.type) (pos:=o.pos) (af:=o.after) (g:=o.guard) hS hG hh).imp fun s hs=>kres_pure hS hk hs⟩
   ·cases h;exact⟨m.S,Mm.le.refl m,hS,fun _=>True.intro⟩
 unfold prOf at h;split at h
 ·rename_i c hc;split at h
  ·rename_i f args hcal;split at h
   ·cases h;exact⟨m.S,Mm.le.refl m,hS,fun _=>True.intro⟩
   ·rename_i hno;split at h
    ·rename_i hk;cases h;obtain⟨S',h1,h2⟩:=hS.frz (frL σ args);refine⟨S',h1,h2,fun hh=>?_⟩
     obtain⟨F,hF,hr⟩:=findF_ok DB.facts rfl (by cases hq:findF DB.facts f (vwL (frz σ (frL σ args)) args)<;>first|exact absurd hq hno|rfl)
     subst hF;rw [← hr]at hk ⊢
     have e:o=⟨o.dst,.call c,o.type,o.pos,o.after,o.guard⟩:=by
       have:o.op=.call c:=by
         unfold callOf at hc;split at hc
         ·rename_i c' hop;cases hc;exact hop
         ·cases hc
       rw [← this]
     rw [e];exact kres_fact hS hGE hh hcal hk h1 h2
    ·cases h;exact⟨m.S,Mm.le.refl m,hS,fun _=>True.intro⟩
  ·exact plain h
 ·exact plain h
end
end Go.SX
