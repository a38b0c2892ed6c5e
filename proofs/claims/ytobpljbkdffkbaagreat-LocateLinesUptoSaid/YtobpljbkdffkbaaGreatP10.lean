/- A part of the proof (texts SM, QStr, SN). -/
import Derived.Deep.AppendSrc
import Derived.Lib.AtoiErrMem
import Derived.Test.YtobpljbkdffkbaaGreatP02
import Derived.Test.YtobpljbkdffkbaaGreatP09
set_option linter.all false
set_option maxRecDepth 100000
namespace Go.SX
open Go.XK Go.RowKit
section
variable {E:En} {C:Cx} {σ:St} {m:Mm} {ids:List Value} {a:Act} {d:Option Tmp} {ty:TypeId} {pos:String} {af:Array Edge} {g:Option (Nat×Bool)} {K:St→Prop}
theorem made_flat (z:Array Value) (n:Nat):(madeCells z (n*z.size)).toList=(List.replicate n z.toList).flatten:=by
 by_cases h0:z.size=0
 ·have hz:z = #[]:=Array.eq_empty_of_size_eq_zero h0;subst hz;have:(List.replicate n ([]:List Value)).flatten=[]:=by simp
  simp [madeCells]
 ·have hK:0<z.size:=Nat.pos_of_ne_zero h0;apply List.ext_getElem?;intro i
  by_cases hi:i<n*z.size
  ·have hq:i / z.size<n:=(Nat.div_lt_iff_lt_mul hK).2 hi;have hr:i % z.size<z.size:=Nat.mod_lt _ hK;have e:i / z.size*z.size+i % z.size=i:=by rw [Nat.mul_comm];exact Nat.div_add_mod i z.size
   have hf:=flatten_get (K:=z.size) (List.replicate n z.toList) (i / z.size) (i % z.size) (fun c hc=>by rw [(List.mem_replicate.1 hc).2];simp) (by simpa using hq) hr
   rw [e]at hf;rw [hf];simp [madeCells,hi,hr]
  ·have hl:((List.replicate n z.toList).flatten).length=n*z.size:=by simp
   rw [List.getElem?_eq_none (l:=(madeCells z (n*z.size)).toList) (by simp [madeCells];omega),List.getElem?_eq_none (by rw [hl];omega)]
theorem elts_rep {c:Nat} {x:TabT c} {us:List Value} (h:DL (TabD c x) m us) (n:Nat):Elts (KT c) (TabD c) m (List.replicate n x) (List.replicate n us) :=
 ⟨by simp,fun q hq=>by rw [(List.mem_replicate.1 hq).2,h.len,TD_len],fun i y hy=>by
   rw [List.getElem?_replicate]at hy ⊢;split at hy
   ·rename_i hi;cases hy;exact⟨us,by rw [if_pos hi],h⟩
   ·cases hy⟩
theorem rep_den {cs:List SV} {us:List Value} (h:DenL m ids cs us):∀ n,DenL m ids (rep n cs) (List.replicate n us).flatten
 |0=>by rw [rep];simp;rw [DenL]
 |n+1=>by rw [rep,List.replicate_succ,List.flatten_cons];exact h.append (rep_den h n)
theorem zcells (E:En) {T:TypeId} {i:TyI} (h:E.TI T=some i):i.z.cells.size=i.size:=(E.hT T i h).zc
theorem new_arr (hS:Sat C σ m ids a) (hd:dOK d C.N=true) (hfr:fresh σ d=true) {e:TypeId} {z:Option Bool} {c:Nat} {l:List (TabT c)} {uss:List (List Value)} {v:Value} {w':World} (he:Ext m.w w') (ho:OwnQ w' 0 e (KT c) v l.length uss.flatten)
   (hn:∀ b,blkOf v=some b→m.w.heap.size≤b) (hel:Elts (KT c) (TabD c) m l uss) (hz:nilOK z v) (hB:l.length*BT c≤140737488355328) (h:K (setE (newN σ (.arr e z c l)) d (.osl σ.nb))):Out C K (a.put d v) w':=by
 have hle:m.le ⟨w',m.S⟩:=Ext.le (S:=m.S) he fun b hb=>(hS.S b hb).1
 have h1:v.oneCell'=true:=by obtain⟨_,_,rfl,_⟩:=ho.reads.len;rfl
 exact Out.new hS he v (.arr e z c l) ⟨v,uss,last_get hS v,ho,hel.le hle,hz,hB⟩ (fun b hf=>hn b (hasB_one h1 (fp_last hS hf))) hd hfr (den_osl hS w' v h1) h
theorem own_row' {w:World} {b n size:Nat} {e:TypeId} {xs:List Value} (h:Row w b e xs) (hl:xs.length=n*size) (hn:n≤140737488355328):OwnQ w 0 e size (.slice (some ⟨b,0,none⟩) n n) n xs :=
 ⟨hl,.inr ⟨b,0,n,_,rfl,Nat.zero_le _,.plain h,Nat.le_refl _,by unfold maxLen;omega,by simp [hl],by rw [List.drop_zero];simp [← hl]⟩⟩
theorem rowC_spec {e:TypeId} {i:TyI} {e2:TypeId} {c:Nat} {z:TabT i.code} (hE:E.TI e=some i) (h:rowC E e i.code=some (e2,c,z)):i.z=.slice none 0 0∧i.size=1∧KT i.code=1∧ES i.code z=some [.lst none c []]:=by
 unfold rowC at h;rw [hE]at h;split at h
 ·rename_i _ _ _ _ he;split at h
  ·split at h
   ·rename_i z' hz hk;cases h;cases he;exact⟨rfl,rfl,Nat.eq_of_beq_eq_true hk,RW_ok hz⟩
   ·cases h
  ·cases h
 ·cases h
theorem rep_nil (n:Nat) (v:Value):(List.replicate n [v]).flatten=List.replicate n v:=by
 induction n with
 |zero=>rfl
 |succ n ih=>rw [List.replicate_succ,List.replicate_succ,List.flatten_cons,ih];rfl
theorem make_nst (hS:Sat C σ m ids a) (hd:dOK d C.N=true) (hfr:fresh σ d=true) {T1 T2 c' c n:Nat} {z:TabT c'} {w':World} (he:Ext m.w w') (ho:OwnQ w' 0 T1 1 (.slice (some ⟨m.w.heap.size,0,none⟩) n n) n (List.replicate n (.slice none 0 0))) (hK:KT c'=1) (hB:n*BT c'≤LIM) (hz:ES c' z=some [.lst none c []])
   (h:K (setE (newN σ (.nst T1 T2 c' c (List.replicate n z) none)) d (.nso σ.nb))):Out C K (a.put d (.slice (some ⟨m.w.heap.size,0,none⟩) n n)) w':=by
 have hl:=last_get hS (.tuple (.slice (some ⟨m.w.heap.size,0,none⟩) n n::List.replicate n (.slice none 0 0)).toArray)
 have only:∀ r u b,(Value.slice (some ⟨m.w.heap.size,0,none⟩) n n::List.replicate n (Value.slice none 0 0))[r]?=some u→blkOf u=some b→r=0∧b=m.w.heap.size:=fun r u b hr hb=>by
   cases r with
   |zero=>cases hr;cases hb;exact⟨rfl,rfl⟩
   |succ r =>
     rw [List.getElem?_cons_succ,List.getElem?_replicate]at hr;split at hr
     ·cases hr;cases hb
     ·cases hr
 refine⟨_,m.S,_,(hS.newB he (.tuple (.slice (some ⟨m.w.heap.size,0,none⟩) n n::List.replicate n (.slice none 0 0)).toArray) (.nst T1 T2 c' c (List.replicate n z) none) ⟨_,_,List.replicate n (.slice none 0 0),hl,by rw [List.length_replicate];exact ho,by simp,hK,by rw [List.length_replicate];exact hB,fun r x hr _=>?_,fun _ _ e=>(by cases e),fun r s u u' b hr hs hne hb hb'=>?_⟩ fun b hf=>?_).put hd hfr (s:=.nso σ.nb) ?_,h⟩
 ·rw [List.getElem?_replicate]at hr;split at hr
  ·rename_i hrn;cases hr;have hg:(List.replicate n (Value.slice none 0 0))[r]?=some (.slice none 0 0):=by rw [List.getElem?_replicate,if_pos hrn]
   exact⟨_,hg,hg,[],[],hz,⟨by simp,.inl ⟨rfl,rfl⟩⟩,Elts.nil,by simp⟩
  ·cases hr
 ·have:=only r u b hr hb;have:=only s u' b hs hb';omega
 ·obtain⟨r,u,hr,hb⟩:=(fp_nst hl).1 hf;exact Nat.le_of_eq (only r u b hr hb).2.symm
 ·rw [Den];exact⟨_,hl,rfl⟩
theorem make_ok (hS:Sat C σ m ids a) (hd:dOK d C.N=true) (hfr:fresh σ d=true) {T:TypeId} {x y:Operand} {n k:Int} (hx:XK.ev (envA a) x=some (.int .i64 n)) (hy:XK.ev (envA a) y=some (.int .i64 k)) (h:vcMake E σ d T n k K) :
   StE E C K a m.w ⟨d,.makeSlice T x y,ty,pos,af,g⟩:=by
 unfold vcMake at h;split at h
 ·rename_i e i he;obtain⟨hu,hE,hK,hB⟩:=elemC_spec he;split at h
  ·rename_i e2 c z hrow;obtain⟨hz1,hz2,hz3,hz4⟩:=rowC_spec hE hrow;obtain⟨⟨h0,h1,h2⟩,hk⟩:=h;subst h1;obtain⟨inf,q1,q2,q3,q4⟩:=(inf_of' hE).ex;have hn:n=(n.toNat:Int):=by omega
   have hb:n.toNat * BT i.code≤140737488355328:=by
     have:((n.toNat * BT i.code:Nat):Int)≤140737488355328:=by rw [Int.natCast_mul,← hn];exact h2
     omega
   have hlen:=len_le hb;obtain⟨w',hr,ho,hg⟩:=run_make_full (P:=E.P) m.w m.w.heap.size T e inf i.z i.size hu q1 q2 q3 .i64 .i64 n.toNat (by rw [q4,← hB,Nat.mul_comm];omega) (by unfold maxLen;omega) (Nat.le_refl _)
   have hext:Ext m.w w':=⟨hg.os,hg.tape,hg.output,hg.size,fun k hk=>hg.block k hk (by simp)⟩
   rw [← hn]at hr;have hsz:=zcells E hE;rw [← hsz,made_flat]at ho;have e1:=(okx_envA a).ev hx;have e2:=(okx_envA a).ev hy;have hzc:i.z.cells.toList=[.slice none 0 0]:=by rw [hz1];rfl
   have hout:Out C K (a.put d (.slice (some ⟨m.w.heap.size,0,none⟩) n.toNat n.toNat)) w':=by
     refine make_nst hS hd hfr hext ?_ hz3 hb hz4 hk;have ho':=OwnQ.of_own ho;rw [hsz,hz2,hzc,rep_nil]at ho';refine⟨ho'.1,ho'.2.imp id fun⟨g,o,cap,cur,q1,q2,q3⟩=>⟨g,o,cap,cur,q1,Nat.zero_le _,q3⟩⟩
   unfold StE;simp only [execOp,e1,e2,Sem.run_bind,hr,Result.andThen_ok,Sem.run_pure];exact⟨hext,hout⟩
  split at h
  ·rename_i z hz;obtain⟨⟨h0,h1,h2⟩,hk⟩:=h;subst h1;obtain⟨inf,q1,q2,q3,q4⟩:=(inf_of' hE).ex;have hn:n=(n.toNat:Int):=by omega
   have hb:n.toNat * BT i.code≤140737488355328:=by
     have:((n.toNat * BT i.code:Nat):Int)≤140737488355328:=by rw [Int.natCast_mul,← hn];exact h2
     omega
   have hlen:=len_le hb;obtain⟨w',hr,ho,hg⟩:=run_make_full (P:=E.P) m.w m.w.heap.size T e inf i.z i.size hu q1 q2 q3 .i64 .i64 n.toNat (by rw [q4,← hB,Nat.mul_comm];omega) (by unfold maxLen;omega) (Nat.le_refl _)
   have hext:Ext m.w w':=⟨hg.os,hg.tape,hg.output,hg.size,fun k hk=>hg.block k hk (by simp)⟩
   rw [← hn]at hr;have hdl:=DC_ok (ids:=[]) (m:=m) i.code hz (svs_den _);have hsz:=zcells E hE;rw [← hsz,made_flat]at ho;have e1:=(okx_envA a).ev hx;have e2:=(okx_envA a).ev hy
   have hout:Out C K (a.put d (.slice (some ⟨m.w.heap.size,0,none⟩) n.toNat n.toNat)) w':=by
     refine new_arr (z:=some false) hS hd hfr (uss:=List.replicate n.toNat i.z.cells.toList) hext ?_ (fun b hb=>by cases hb;exact Nat.le_refl _) (elts_rep hdl n.toNat) rfl (by rw [List.length_replicate];exact hb) hk
     have ho':=OwnQ.of_own ho;rw [hsz,← hK]at ho';rw [List.length_replicate];refine⟨ho'.1,ho'.2.imp id fun⟨g,o,cap,cur,q1,q2,q3⟩=>⟨g,o,cap,cur,q1,Nat.zero_le _,q3⟩⟩
   unfold StE;simp only [execOp,e1,e2,Sem.run_bind,hr,Result.andThen_ok,Sem.run_pure];exact⟨hext,hout⟩
  ·cases h
 ·cases h
theorem buildS_ok (hS:Sat C σ m ids a) (hd:dOK d C.N=true) (hfr:fresh σ d=true) {T:TypeId} {n:Nat} {parts:Array (Nat×Operand)} {ps:List (Nat×SV)} {vs:List (Nat×Value)} (hv:XK.pevs (envA a) parts.toList=some vs) (hdn:DenN m ids ps vs) (h:vcBuildS E σ d T n ps K) :
   StE E C K a m.w ⟨d,.buildSlice T n parts,ty,pos,af,g⟩:=by
 unfold vcBuildS at h;split at h
 ·rename_i e i he;obtain⟨hu,hE,hK,hB⟩:=elemC_spec he;split at h
  ·rw [DenN]at hdn;subst hdn
   have hp:parts = #[]:=by
     apply Array.ext'
     cases hq:parts.toList with
     |nil=>rfl
     |cons x r =>
       obtain⟨i',x'⟩:=x;rw [hq]at hv;simp only [XK.pevs]at hv;split at hv<;>cases hv
   subst hp;refine stE_of (Stp.buildNil hu (inf_of' hE) fun w' hext _ hr=>⟨hext,?_⟩)
   refine new_arr (z:=some false) (l:=([]:List (TabT i.code))) (uss:=[]) hS hd hfr hext ?_ (fun b hb=>by cases hb;exact Nat.le_refl _) Elts.nil rfl (by simp) h
   exact own_row' hr (by simp) (by decide)
  ·cases h
  ·rename_i ps n;split at h
   ·rename_i cs hp hb1 hb2;split at h
    ·rename_i l hl;rw [Bool.and_eq_true]at hb1;have hb0:=Nat.le_of_ble_eq_true hb1.2;have hb1:=Nat.le_of_ble_eq_true hb1.1;have hb2:=Nat.le_of_ble_eq_true hb2;have hsz:=zcells E hE;obtain⟨cells,h5,h6⟩:=partsA_ok (place:=fun j=>some (j*KT i.code,KT i.code)) (fun _=>rfl) (cells:=madeCells i.z.cells ((n+1)*i.z.cells.size)) hp hdn (by rw [made_flat];exact rep_den (svs_den _) (n+1))
     obtain⟨uss,e1,h7,h8⟩:=decN_ok hl h6;have hlB:l.length*BT i.code≤140737488355328:=by rw [h8,hB];exact hb2
     have fin:∀ w',Ext m.w w'→Row w' m.w.heap.size e cells.toList→Out C K (a.put d (.slice (some ⟨m.w.heap.size,0,none⟩) (n+1) (n+1))) w':=fun w' hext hr=>by
       rw [e1]at hr;refine new_arr (z:=some false) hS hd hfr hext ?_ (fun b hb=>by cases hb;exact Nat.le_refl _) h7 rfl hlB h
       have:=own_row' hr (size:=KT i.code) (n:=l.length) h7.flat (len_le hlB);rw [h8]at this ⊢;exact this
     have hmul:1≤(n+1)*i.size:=Nat.le_trans hb0 (Nat.le_mul_of_pos_left _ (Nat.succ_pos n));refine stE_of (Stp.buildSlice (size:=KT i.code) (cells:=cells.toList) hu (by rw [hK];exact inf_of' hE) ?_ ?_ hv ?_ fun w' hext _ hr=>⟨hext,fin w' hext hr⟩)
     ·rw [hK];exact Nat.ble_eq_true_of_le hb1
     ·rw [hK];exact Nat.ble_eq_true_of_le hmul
     ·rw [← hsz]at hK;rw [hK,Array.toArray_toList];rw [hK]at h5;exact h5
    ·cases h
   ·cases h
 ·cases h
theorem ownQ_take {w:World} {e:TypeId} {size n hi:Nat} {v:Value} {xs:List Value} (h:OwnQ w 0 e size v n xs) (hh:hi≤n):OwnQ w 0 e size (XK.takeV v hi) hi (xs.take (hi*size)):=by
 have hm:hi*size≤n*size:=Nat.mul_le_mul_right _ hh;refine⟨by rw [List.length_take,h.1];omega,?_⟩
 rcases h.2 with ⟨rfl,hn⟩|⟨g,o,cap,cur,rfl,hg,hh',hnc,hcm,hcs,ht⟩
 ·have:hi=0:=by omega
  subst this;exact .inl ⟨rfl,rfl⟩
 ·refine .inr ⟨g,o,cap,cur,rfl,hg,hh',by omega,hcm,hcs,?_⟩
  rw [← ht,List.take_take,Nat.min_eq_left hm]
theorem subz_ok (hS:Sat C σ m ids a) {s:SV} {u:Value} (hs:Den m ids s u):∃ ids',Sat C (subz σ s).1 m ids' a∧Den m ids' (subz σ s).2 u∧(subz σ s).1.gen=σ.gen∧(subz σ s).1.kn=σ.kn∧∀ s y,Den m ids s y→Den m ids' s y:=by
 unfold subz;split
 ·rename_i j c lo hi;split
  ·rename_i e z c' l hj;split
   ·rename_i l2 hc;obtain⟨ec,hc⟩:=castL_some hc;subst ec;have hc:l=l2:=hc;subst hc;rw [Den]at hs;obtain⟨ad,n,cp,hid,h0,h1,h2,h3,h4,h5,rfl⟩:=hs;obtain⟨v,uss,q1,q2,q3,q4,q5⟩:=hS.heap.sat j _ hj;rw [hid]at q1;cases q1;obtain⟨bb,cc,e1,_⟩:=q2.reads.len;have hn:n=l.length:=by cases e1;rfl
    subst hn;have hlo:lo.toNat≤hi.toNat:=by omega
    have hhi:hi.toNat≤l.length:=by omega
    have ho:=(ownQ_take q2 hhi).drop hlo;rw [← subV_eq]at ho;have hll:((l.drop lo.toNat).take (hi.toNat-lo.toNat)).length=hi.toNat-lo.toNat:=by rw [List.length_take,List.length_drop];omega
    have hfl:((uss.drop lo.toNat).take (hi.toNat-lo.toNat)).flatten=(uss.flatten.take (hi.toNat * KT c')).drop (lo.toNat * KT c'):=by
      rw [flat_take _ (fun us hu=>q3.2.1 us (List.mem_of_mem_drop hu)),flat_drop _ q3.2.1,List.drop_take,← Nat.sub_mul]
    have ho1:(subV (KT c') lo.toNat hi.toNat (.slice ad l.length cp)).oneCell'=true:=by unfold subV;rfl
    have hlen:((l.drop lo.toNat).take (hi.toNat-lo.toNat)).length*BT c'≤LIM:=Nat.le_trans (Nat.mul_le_mul_right _ (by rw [hll];omega)) q5
    refine⟨ids++[subV (KT c') lo.toNat hi.toNat (.slice ad l.length cp)],hS.repl (w':=m.w) hj ((Ext.refl m.w).mod _) _ (.arr e none c' ((l.drop lo.toNat).take (hi.toNat-lo.toNat))) ⟨_,(uss.drop lo.toNat).take (hi.toNat-lo.toNat),last_get hS _,?_,(q3.drop _).take _,trivial,hlen⟩ fun b hf=>.inl ?_,?_,rfl,rfl,fun s y hd=>Den.app _ s hd⟩
    ·rw [hfl,hll];exact ho
    ·have:=hasB_one ho1 (fp_last hS hf);exact⟨rfl,_,hid,blk_sub this⟩
    ·rw [Den];exact⟨last_get hS _,ho1⟩
   ·exact⟨ids,hS,hs,rfl,rfl,fun _ _ h=>h⟩
  ·exact⟨ids,hS,hs,rfl,rfl,fun _ _ h=>h⟩
 ·exact⟨ids,hS,hs,rfl,rfl,fun _ _ h=>h⟩
theorem append_ok (hS:Sat C σ m ids a) (hd:dOK d C.N=true) (hfr:fresh σ d=true) {T:TypeId} {x y:Operand} {s:SV} {u v:Value} (hx:XK.ev (envA a) x=some u) (hy:XK.ev (envA a) y=some v) (hs:Den m ids s u) {f:(c:Nat)→Option (List (TabT c))} (hview:∀ c l2,f c=some l2→∃ uss2:List (List Value),Reads m.w (KT c) v l2.length uss2.flatten∧Elts (KT c) (TabD c) m l2 uss2)
   (h:vcAppend E σ d T s f K):StB E C K a m.w ⟨d,.call ⟨.builtin .append,#[x,y],#[T,T]⟩,ty,pos,af,g⟩:=by
 unfold vcAppend at h;split at h
 ·rename_i e i he;obtain⟨hu,hE,hK,hB⟩:=elemC_spec he;have hsz:=zcells E hE;split at h
  ·rename_i l2 hl2;obtain⟨uss2,hr2,hel2⟩:=hview _ _ hl2;have hin:Inf E.P e i.z (KT i.code) i.bytes:=by rw [hK];exact inf_of' hE
   split at h
   ·cases den_v hs;obtain⟨⟨hb⟩,hk⟩:=h;have ho:OwnQ m.w 0 e (KT i.code) (.slice none 0 0) 0 []:=⟨by simp,.inl ⟨rfl,rfl⟩⟩
    refine stB_of (Stp.appendQ hu hin (by rw [hsz,hK]) hx hy ho (Nat.zero_le _) hr2 hel2.one (by rw [Nat.zero_add,← hB];exact hb) (by rw [Nat.zero_add];have:=len_le hb;unfold maxLen;omega) fun v' w' h1 h2 h3=>?_)
    rw [Nat.zero_add,List.nil_append]at h1;refine new_arr (z:=none) hS hd hfr ⟨h2.os,h2.tape,h2.output,h2.size,fun k hk=>h2.block k hk (by simp [Value.ownBlock])⟩ h1 (fun b hb'=>?_) hel2 trivial hb hk
    obtain⟨ad,c2,rfl,_⟩:=h1.reads.len
    cases ad with
    |none=>cases hb'
    |some ad =>
                 cases hb';rcases h3 _ rfl with h4|h4
                 ·cases h4
                 ·exact h4
   ·rename_i j;split at h
    ·rename_i e' z c' l' hj;split at h
     ·rename_i l hcast hee;obtain⟨ec,hcast⟩:=castL_some hcast;subst ec;have hcast:l'=l:=hcast;subst hcast;have hee:=Nat.eq_of_beq_eq_true hee;subst hee;obtain⟨⟨hb⟩,hk⟩:=h;rw [Den]at hs;obtain⟨v0,uss,q1,q2,q3,q4,q5⟩:=hS.heap.sat j _ hj;rw [hs.1]at q1;cases q1;refine stB_of (Stp.appendQ hu hin (by rw [hsz,hK]) hx hy q2 (Nat.zero_le _) hr2 hel2.one (by rw [← hB];exact hb) (by have:=len_le hb;unfold maxLen;omega) fun v' w' h1 h2 h3=>?_)
      have ho1:v'.oneCell'=true:=by obtain⟨_,_,rfl,_⟩:=h1.reads.len;rfl
      have hown:∀ k,u.ownBlock=some k→Fp ids j (.arr e z i.code l') k:=fun k hk=>by
        refine⟨rfl,u,hs.1,hasB_of ?_⟩;obtain⟨ad,c2,rfl,_⟩:=q2.reads.len
        cases ad with
        |none=>simp [Value.ownBlock]at hk
        |some ad=>simpa [Value.ownBlock,blkOf] using hk
      have hmod:Mod (fun b=>Fp ids j (.arr e z i.code l') b) m.w w':=Mod.of_grown h2 fun k hk=>hown k hk
      have hnS:∀ b,Fp ids j (.arr e z i.code l') b→¬ m.S b:=fun b hb0=>hS.heap.fpS j _ b hj hb0
      have hle:m.le ⟨w',m.S⟩:=⟨fun k hk=>⟨hk,hmod.block k (hS.S k hk).1 fun e=>hnS k e hk⟩,hmod.size⟩
      have hel:Elts (KT i.code) (TabD i.code) m (l'++l2) (uss++uss2):=by
        refine⟨by simp [q3.1,hel2.1],fun q hq=>?_,fun i' x' hx'=>?_⟩
        ·rcases List.mem_append.1 hq with hq|hq
         ·exact q3.2.1 q hq
         ·exact hel2.2.1 q hq
        ·by_cases hlt:i'<l'.length
         ·rw [List.getElem?_append_left hlt]at hx';rw [List.getElem?_append_left (by rw [q3.1];exact hlt)]
          exact q3.2.2 i' x' hx'
         ·rw [List.getElem?_append_right (by omega)]at hx'
          rw [List.getElem?_append_right (by rw [q3.1];omega),q3.1]
          exact hel2.2.2 _ x' hx'
      refine⟨_,m.S,ids++[v'],(hS.repl hj hmod v' (.arr e none i.code (l'++l2)) ⟨v',uss++uss2,by simp [setH,last_get hS],?_,hel.le hle,trivial,by rw [List.length_append];exact hb⟩ fun b hf=>?_).put hd hfr ?_,hk⟩
      ·rw [List.length_append,List.flatten_append];exact h1
      ·have hb':=hasB_one ho1 (fp_last hS hf);obtain⟨ad,c2,rfl,_⟩:=h1.reads.len
       cases ad with
       |none=>cases hb'
       |some ad =>
         cases hb';exact(h3 _ rfl).imp (fun q=>hown _ q) id
      ·rw [Den];exact⟨last_get hS v',ho1⟩
     ·cases h
    ·cases h
   ·cases h
  ·cases h
 ·cases h
theorem cpy_elts {c:Nat} {l m2:List (TabT c)} {uss us2:List (List Value)} {lo hi:Nat} (h:Elts (KT c) (TabD c) m l uss) (h2:Elts (KT c) (TabD c) m m2 us2) (h3:lo≤hi) (h4:hi≤l.length) :
   Elts (KT c) (TabD c) m (cpy l lo hi m2) (cpy uss lo hi us2)∧(cpy l lo hi m2).length=l.length:=by
 have app:∀ {l1 l2:List (TabT c)} {u1 u2:List (List Value)},Elts (KT c) (TabD c) m l1 u1→Elts (KT c) (TabD c) m l2 u2→Elts (KT c) (TabD c) m (l1++l2) (u1++u2):=fun {l1 l2 u1 u2} q1 q2=>by
   refine⟨by simp [q1.1,q2.1],fun q hq=>?_,fun i x hx=>?_⟩
   ·rcases List.mem_append.1 hq with hq|hq
    ·exact q1.2.1 q hq
    ·exact q2.2.1 q hq
   ·by_cases hlt:i<l1.length
    ·rw [List.getElem?_append_left hlt]at hx;rw [List.getElem?_append_left (by rw [q1.1];exact hlt)]
     exact q1.2.2 i x hx
    ·rw [List.getElem?_append_right (by omega)]at hx
     rw [List.getElem?_append_right (by rw [q1.1];omega),q1.1]
     exact q2.2.2 _ x hx
 refine⟨?_,by simp [cpy];omega⟩
 unfold cpy;rw [h2.1];exact app (app (h.take lo) (h2.take _)) (h.drop _)
theorem cpy_flat {uss us2:List (List Value)} {K lo hi:Nat} (h:∀ us∈uss,us.length=K) (h2:∀ us∈us2,us.length=K) (h3:lo≤hi) (h4:hi≤uss.length) :
   (cpy uss lo hi us2).flatten=uss.flatten.take (lo*K)++us2.flatten.take ((hi-lo)*K)++uss.flatten.drop ((lo+min (hi-lo) us2.length)*K):=by
 unfold cpy;rw [List.flatten_append,List.flatten_append,flat_take _ h,flat_take _ h2,flat_drop _ h]
theorem dst_ok (hS:Sat C σ m ids a) {c:Nat} {s:SV} {u:Value} {j lo hi:Nat} {e:TypeId} {z:Option Bool} {l:List (TabT c)} (h:dstOf σ c s=some (j,e,z,l,lo,hi)) (hs:Den m ids s u) :
   lk σ.heap j=some (.arr e z c l)∧lo≤hi∧hi≤l.length∧∃ v,ids[j]?=some v∧(u=v∧lo=0∧hi=l.length∨u=subV (KT c) lo hi v):=by
 unfold dstOf at h;split at h
 ·rename_i j';split at h
  ·rename_i e' z' c' l' hj;split at h
   ·rename_i l2 hcast;obtain⟨ec,hcast⟩:=castL_some hcast;subst ec;have hcast:l'=l2:=hcast;subst hcast;cases h;rw [Den]at hs;exact⟨hj,Nat.zero_le _,Nat.le_refl _,u,hs.1,.inl ⟨rfl,rfl,rfl⟩⟩
   ·cases h
  ·cases h
 ·rename_i j' c0 lo' hi';split at h
  ·rename_i e' z' c' l' hc0 hj;split at h
   ·rename_i l2 hcast;obtain⟨ec,hcast⟩:=castL_some hcast;subst ec;have hcast:l'=l2:=hcast;subst hcast;cases h;have hc0:=Nat.eq_of_beq_eq_true hc0;subst hc0;rw [Den]at hs;obtain⟨ad,n,cp,hid,h0,h1,h2,_,_,_,rfl⟩:=hs;obtain⟨v,uss,h3,h4,_⟩:=hS.heap.sat j _ hj;rw [hid]at h3;cases h3;obtain⟨_,_,e1,_⟩:=h4.reads.len;injection e1 with _ e2 _
    exact⟨hj,by omega,by omega,_,hid,.inr rfl⟩
   ·cases h
  ·cases h
 ·cases h
end
end Go.SX
namespace Go.XK
open Go.RowKit
section
variable {P:Program} {env:List (Nat×Value)} {d:Option Tmp} {ty:TypeId} {pos:String} {af:Array Edge} {g:Option (Nat×Bool)}
theorem run_append_roomS {w:World} {t tx ty e:TypeId} {i:TypeInfo} (ht:P.underlying t=some (.slice e)) (hu:P.underlying tx=some .string) (hi:P.info? e=some i) (h1:i.size=1)
   {g o sLen sCap:Nat} {cur:Array Value} (hg:CellsAt w g cur e) (str:ByteArray)
   (hroom:sLen+str.size≤sCap) (hfit:o+sLen+str.size≤cur.size) :
   (Builtin.append_ #[t,tx] ty #[.slice (some ⟨g,o,none⟩) sLen sCap,.string str]).run P w =
     .ok (.slice (some ⟨g,o,none⟩) (sLen+str.size) sCap) (w.setRow g (cur.toList.take (o+sLen)++byteCells str++cur.toList.drop (o+sLen+str.size)).toArray):=by
 have hs:=Src.ofString w hu str;have hl:=byteCells_length str;have hst:=run_storeCells_atG P g (o+sLen) e (byteCells str) 0 cur w hg (by rw [hl];simpa using hfit) hs.one
 simp only [Nat.add_zero,hl]at hst;simp [Builtin.append_,run_underlying ht,run_underlying hu,sizeOf,typeInfo,hi,h1,hs.len,hroom,hs.cells,Addr.add_lit,hst]
theorem Stp.appendQS {w:World} {s x:Operand} {t tx e:TypeId} {z:Value} {bytes base n:Nat} {str:ByteArray} {v:Value} {xs:List Value} {K:Value→World→Prop} (ht:P.underlying t=some (.slice e)) (hu:P.underlying tx=some .string) (hi:Inf P e z 1 bytes)
   (hz:z.cells.size=1) (hs:ev env s=some v) (hx:ev env x=some (.string str)) (hown:OwnQ w base e 1 v n xs) (hbase:base≤w.heap.size)
   (hb:(n+str.size)*bytes≤140737488355328) (hb0:n+str.size≤maxLen)
   (h:∀ v' w',OwnQ w' base e 1 v' (n+str.size) (xs++byteCells str)→w.grownBy w' v.ownBlock→(∀ k,v'.ownBlock=some k→v.ownBlock=some k∨w.heap.size≤k)→K v' w'):Stp P env w ⟨d,.call ⟨.builtin .append,#[s,x],#[t,tx]⟩,ty,pos,af,g⟩ K:=fun a N ha=>by
 obtain⟨inf,h2,h3,h4,h5⟩:=hi.ex;have hsr:=Src.ofString w hu str;have hbl:=byteCells_length str;have hlen:(xs++byteCells str).length=(n+str.size)*1:=by rw [List.length_append,hown.1,hbl,Nat.mul_one,Nat.mul_one]
 have grown:∀ (old:Nat),OwnQ (w.drew.alloc (.cells ((xs++byteCells str).toArray++Builtin.zeroCells z.cells (grownCap w (n+str.size) old e-(n+str.size))) e)) base e 1
       (.slice (some ⟨w.heap.size,0,none⟩) (n+str.size) (grownCap w (n+str.size) old e)) (n+str.size) (xs++byteCells str):=by
   intro old;have hge:=grownCap_ge w (n+str.size) old e;have hcm:grownCap w (n+str.size) old e≤maxLen:=grownCap_le_maxLen w (n+str.size) old e hb0;refine⟨hlen,.inr ⟨w.heap.size,0,_,_,rfl,hbase,.plain (heap_alloc_new w.drew _),hge,hcm,?_,?_⟩⟩
   ·have:=hown.1;simp only [Array.size_append,List.size_toArray,size_zeroCells,hz,List.length_append,hbl];omega
   ·simp only [Array.toList_append,List.drop_zero];rw [show(n+str.size)*1=(xs++byteCells str).length from hlen.symm];exact List.take_left
 have hgr:∀ old row,w.grownBy (w.drew.alloc (.cells ((xs++byteCells str).toArray++Builtin.zeroCells z.cells (grownCap w (n+str.size) old e-(n+str.size))) e)) row:=fun old row =>
   Ext.grownBy ((Below.refl _ _).alloc (Nat.le_refl _) _ |>.drew) row
 have hrun:∃ v' w',(Builtin.append_ #[t,tx] ty #[v,.string str]).run P w=.ok v' w'∧OwnQ w' base e 1 v' (n+str.size) (xs++byteCells str)∧w.grownBy w' v.ownBlock∧(∀ k,v'.ownBlock=some k→v.ownBlock=some k∨w.heap.size≤k):=by
   subst h5;have hsm:n+str.size≤9223372036854775807:=by simp only [maxLen]at hb0;omega
   rcases hown.2 with ⟨rfl,rfl⟩|⟨g0,o,cap,cur,rfl,hbg,hg,hnc,hcm,hcs,htake⟩
   ·have hx:xs=[]:=List.eq_nil_of_length_eq_zero (by simpa using hown.1)
    subst hx
    by_cases hm0:str.size=0
    ·have hb0:byteCells str=[]:=List.eq_nil_of_length_eq_zero (by rw [hbl];exact hm0)
     rw [hm0,hb0];refine⟨.slice none 0 0,w,?_,⟨rfl,.inl ⟨rfl,rfl⟩⟩,⟨rfl,rfl,rfl,Nat.le_refl _,fun _ _ _=>rfl⟩,fun k hk=>by simp [Value.ownBlock]at hk⟩
     have hc:=hsr.cells;rw [hm0,hb0]at hc;simp [Builtin.append_,run_underlying ht,run_underlying hu,sizeOf,typeInfo,h2,h4,hsr.len,hm0,hc]
    ·have hr2:=run_append_grow_src (P:=P) w t tx ty e inf z ht h2 h3 none 0 0 [] (run_firstCells_none w.drew inf.size 0 0 0) (.string str) str.size (byteCells str) (by rw [h4];exact hsr) (by omega) (by omega) (growslice_fits (by omega) (by simpa using hb))
     have:=grown 0;have hg2:=hgr 0 (Value.ownBlock (.slice none 0 0));simp only [Nat.zero_add,List.nil_append]at this hg2 hr2 ⊢;exact⟨_,_,hr2,this,hg2,fun k hk=>.inr (by simp [Value.ownBlock]at hk;omega)⟩
   ·simp only [Nat.mul_one]at hcs htake
    by_cases hroom:n+str.size≤cap
    ·have hfit:o+n+str.size≤cur.size:=by omega
     have hr2:=run_append_roomS (P:=P) (ty:=ty) ht hu h2 h4 hg str hroom hfit;refine⟨_,_,hr2,⟨hlen,.inr ⟨g0,o,cap,_,rfl,hbg,hg.setRow (by simp only [List.size_toArray,List.length_append,List.length_take,List.length_drop,Array.length_toList,hbl];omega),hroom,hcm,?_,?_⟩⟩,⟨rfl,rfl,rfl,by simp,fun k _ hk=>setRow_other w g0 k _ (fun e=>hk (by simp [Value.ownBlock,e]))⟩,fun k hk=>.inl hk⟩
     ·simp only [List.size_toArray,List.length_append,List.length_take,List.length_drop,Array.length_toList,hbl];omega
     ·have hol:o+n≤cur.toList.length:=by rw [Array.length_toList];omega
      have e1:(cur.toList.take (o+n)).drop o=xs:=by
        rw [← htake,List.drop_take]
        congr 1
        omega
      have hlo:(List.take (o+n) cur.toList).length=o+n:=by rw [List.length_take];omega
      rw [show(n+str.size)*1=(xs++byteCells str).length from hlen.symm];show List.take _ (List.drop o _)=_;rw [List.append_assoc,List.drop_append_of_le_length (by rw [hlo];omega),e1,← List.append_assoc]
      exact List.take_left
    ·have hrd:=(OwnQ.reads ⟨hown.1,.inr ⟨g0,o,cap,cur,rfl,hbg,hg,hnc,hcm,by simpa using hcs,by simpa using htake⟩⟩:Reads w 1 (.slice (some ⟨g0,o,none⟩) n cap) n xs)
     have hold:(Builtin.firstCells inf.size n (.slice (some ⟨g0,o,none⟩) n cap)).run P w.drew=.ok xs.toArray w.drew:=by
       rw [h4];refine run_firstCells_some w.drew 1 n ⟨g0,o,none⟩ n cap xs (by simpa using hown.1) fun j q hj=>?_
       rcases hrd.2 with ⟨_,hn0⟩|⟨b2,o2,c2,ha',_,_,hat2⟩
       ·have hx0:xs=[]:=List.eq_nil_of_length_eq_zero (by rw [hown.1,hn0])
        rw [hx0]at hj;cases hj
       ·cases ha';rw [Addr.add_mid];simpa using hat2 j q hj
     have hr2:=run_append_grow_src (P:=P) w t tx ty e inf z ht h2 h3 (some ⟨g0,o,none⟩) n cap xs hold (.string str) str.size (byteCells str) (by rw [h4];exact hsr) (by omega) (by omega) (growslice_fits (by omega) hb)
     exact⟨_,_,hr2,grown cap,hgr cap _,fun k hk=>.inr (by simp [Value.ownBlock]at hk;omega)⟩
 obtain⟨v',w',hq,h6,h7,h8⟩:=hrun;simp only [execOp,resolve,invoke,builtin,Sem.run_bind,Sem.run_pure,Result.andThen_ok,List.map_toArray,List.map_cons,List.map_nil,ha.ev hs,ha.ev hx,hq];exact h v' w' h6 h7 h8
end
end Go.XK
namespace Go.SX
open Go.XK Go.RowKit
section
variable {E:En} {C:Cx} {σ:St} {m:Mm} {ids:List Value} {a:Act} {d:Option Tmp} {ty:TypeId} {pos:String} {af:Array Edge} {g:Option (Nat×Bool)} {K:St→Prop}
theorem own_put {w:World} {e:TypeId} {size gb o n cap c:Nat} {cur:Array Value} {xs ys:List Value} (hl:xs.length=n*size) (hh:CellsAt w gb cur e) (hnc:n≤cap) (hcm:cap≤maxLen) (hcs:o+cap*size≤cur.size)
   (htake:(cur.toList.drop o).take (n*size)=xs) (hc:c+ys.length≤xs.length) :
   OwnQ (w.setRow gb (cur.toList.take (o+c)++ys++cur.toList.drop (o+c+ys.length)).toArray) 0 e size (.slice (some ⟨gb,o,none⟩) n cap) n (XK.putL xs c ys):=by
 have hle:n*size≤cap*size:=Nat.mul_le_mul_right _ hnc
 have hfl:o+c+ys.length≤cur.toList.length:=by
   have:cur.toList.length=cur.size:=Array.length_toList;have h0:=hl;omega
 have hp:cur.toList.take (o+c)++ys++cur.toList.drop (o+c+ys.length)=XK.putL cur.toList (o+c) ys:=rfl;rw [hp];refine⟨by rw [putL_len hc,hl],.inr ⟨gb,o,cap,_,rfl,Nat.zero_le _,hh.setRow (by have:=putL_len hfl;simp only [List.size_toArray,this,Array.length_toList]),hnc,hcm,?_,?_⟩⟩
 ·have:=putL_len hfl;simp only [List.size_toArray,this];simpa using hcs
 ·apply List.ext_getElem?;intro j;rw [putL_get hc,← htake,List.getElem?_take,List.getElem?_take,List.getElem?_drop,List.getElem?_drop,List.toList_toArray,putL_get hfl]
  by_cases hj:j<n*size
  ·rw [if_pos hj,if_pos hj]
   by_cases hin:c≤j∧j<c+ys.length
   ·rw [if_pos hin,if_pos (by omega)]
    congr 1
    omega
   ·rw [if_neg hin,if_neg (by omega)]
  ·rw [if_neg hj,if_neg hj,if_neg (by omega)]
theorem run_copy_rowG {P:Program} (w:World) (dT sT ty elem:TypeId) (g o dLen dCap:Nat) (a:Addr) (sLen sCap:Nat) (cur:Array Value) (t:TypeId) (cs:List Value)
   (hu:P.underlying dT=some (.slice elem)) (hs:(P.info? elem).map (·.size)=some 1) (hg:CellsAt w g cur t) (hn:cs.length=Nat.min sLen dLen)
   (hsrc:∀ j v,cs[j]?=some v→w.cell? (a.add j)=some v) (hfit:o+cs.length≤cur.size) (h1:∀ v∈cs,v.oneCell'=true) :
   (Builtin.copy_ #[dT,sT] ty #[.slice (some ⟨g,o,none⟩) dLen dCap,.slice (some a) sLen sCap]).run P w =
     .ok (goInt cs.length) (w.setRow g (cur.toList.take o++cs++cur.toList.drop (o+cs.length)).toArray):=by
 have hl:=run_loadCells_list (P:=P) w a cs hsrc;have hst:=run_storeCells_atG P g o t cs 0 cur w hg (by simpa using hfit) h1
 cases hq:P.info? elem with
 |none=>simp [hq]at hs
 |some i =>
   have hi:i.size=1:=by simpa [hq] using hs
   simp [Builtin.copy_,run_underlying hu,Builtin.lenOf,Builtin.firstCells,sizeOf,typeInfo,hq,hi,← hn,hl,hst]
theorem run_copy_stringG {P:Program} (w:World) (dT sT ty elem:TypeId) (g o dLen dCap:Nat) (s:ByteArray) (cur:Array Value) (t:TypeId)
   (hu:P.underlying dT=some (.slice elem)) (hs:(P.info? elem).map (·.size)=some 1) (hg:CellsAt w g cur t) (hle:s.size≤dLen) (hfit:o+s.size≤cur.size) :
   (Builtin.copy_ #[dT,sT] ty #[.slice (some ⟨g,o,none⟩) dLen dCap,.string s]).run P w =
     .ok (goInt s.size) (w.setRow g (cur.toList.take o++Lib.byteCells s.data.toList++cur.toList.drop (o+s.size)).toArray):=by
 have hlen:(Lib.byteCells s.data.toList).length=s.size:=by rw [Lib.byteCells_length,← Lib.size_eq]
 have hst:=run_storeCells_atG P g o t (Lib.byteCells s.data.toList) 0 cur w hg (by rw [hlen];simpa using hfit) (Lib.byteCells_one _)
 have hmin:Nat.min s.size dLen=s.size:=Nat.min_eq_left hle
 have htk:List.take s.size (List.map (fun b:UInt8=>Value.int IntKind.u8 (b.toNat:Int)) s.data.toList)=Lib.byteCells s.data.toList:=by
   rw [List.take_of_length_le (by rw [List.length_map,← Lib.size_eq];exact Nat.le_refl _)]
   rfl
 rw [hlen]at hst;simp only [Nat.add_zero]at hst
 cases hq:P.info? elem with
 |none=>simp [hq]at hs
 |some i =>
   simp [Builtin.copy_,run_underlying hu,Builtin.lenOf,Builtin.firstCells,sizeOf,typeInfo,hq,hmin];rw [htk,hst];simp [Result.andThen]
theorem dst_row (hS:Sat C σ m ids a) {c:Nat} {s:SV} {u:Value} {j lo hi:Nat} {e:TypeId} {z:Option Bool} {l:List (TabT c)} (h:dstOf σ c s=some (j,e,z,l,lo,hi)) (hs:Den m ids s u) :
   lk σ.heap j=some (.arr e z c l)∧lo≤hi∧hi≤l.length∧(∃ ad cp,u=.slice ad (hi-lo) cp)∧∃ v uss,ids[j]?=some v∧Elts (KT c) (TabD c) m l uss∧nilOK z v∧l.length*BT c≤LIM∧OwnQ m.w 0 e (KT c) v l.length uss.flatten ∧
     (lo<hi→∃ gb o cap cur cp',v=.slice (some ⟨gb,o,none⟩) l.length cap∧u=.slice (some ⟨gb,o+lo*KT c,none⟩) (hi-lo) cp'∧CellsAt m.w gb cur e∧l.length≤cap∧cap≤maxLen∧o+cap*KT c≤cur.size∧(cur.toList.drop o).take (l.length*KT c)=uss.flatten):=by
 obtain⟨hj,h1,h2,v,hid,hu⟩:=dst_ok hS h hs;obtain⟨v',uss,h3,h4,h5,h6,h7⟩:=hS.heap.sat j _ hj;rw [hid]at h3;cases h3;refine⟨hj,h1,h2,?_,v,uss,hid,h5,h6,h7,h4,fun hlt=>?_⟩
 ·obtain⟨ad,cp,rfl,_⟩:=h4.reads.len;rcases hu with ⟨rfl,rfl,rfl⟩|rfl
  ·exact⟨ad,cp,rfl⟩
  ·exact⟨_,_,rfl⟩
 ·rcases h4.2 with ⟨rfl,hn⟩|⟨gb,o,cap,cur,rfl,_,hh,hnc,hcm,hcs,ht⟩
  ·omega
  ·refine⟨gb,o,cap,cur,?_⟩;rcases hu with ⟨rfl,rfl,rfl⟩|rfl
   ·exact⟨cap,rfl,by simp,hh,hnc,hcm,hcs,ht⟩
   ·refine⟨cap-lo,rfl,?_,hh,hnc,hcm,hcs,ht⟩;have hne:cap≠lo:=by omega
    simp [subV,hne,Addr.add_mid]
theorem goInt_den {m:Mm} {ids:List Value} {n:Nat} (h:n≤140737488355328):Den m ids (.i (n:Nat)) (goInt n):=den_i (by unfold InR;omega)
theorem copy_out (hS:Sat C σ m ids a) (hd:dOK d C.N=true) (hfr:fresh σ d=true) {c:Nat} {j lo hi gb o cap n:Nat} {e:TypeId} {z:Option Bool} {l l2:List (TabT c)} {uss uss2:List (List Value)} {cur:Array Value} {v:Value} (hj:lk σ.heap j=some (.arr e z c l))
   (h1:lo≤hi) (h2:hi≤l.length) (hv:v=.slice (some ⟨gb,o,none⟩) l.length cap) (hid:ids[j]?=some v) (h5:Elts (KT c) (TabD c) m l uss) (h6:nilOK z v) (h7:l.length*BT c≤LIM) (hh:CellsAt m.w gb cur e) (hnc:l.length≤cap) (hcm:cap≤maxLen)
   (hcs:o+cap*KT c≤cur.size) (ht:(cur.toList.drop o).take (l.length*KT c)=uss.flatten) (he2:Elts (KT c) (TabD c) m l2 uss2) (hn:n=min (hi-lo) l2.length) {cs:List Value} (hcs2:cs=uss2.flatten.take (n*KT c))
   (hk:K (setE (setH σ j (.arr e z c (cpy l lo hi l2))) d (.i (n:Nat)))) :
   Out C K (a.put d (goInt n)) (m.w.setRow gb (cur.toList.take (o+lo*KT c)++cs++cur.toList.drop (o+lo*KT c+cs.length)).toArray):=by
 subst hv;have hfb:Fp ids j (.arr e z c l) gb:=⟨rfl,_,hid,rfl⟩;have hu:=setRow_upd m.w gb (cur.toList.take (o+lo*KT c)++cs++cur.toList.drop (o+lo*KT c+cs.length)).toArray;have hle:=le_upd hS hj hfb hu;have hf2:=he2.flat;have hf1:=h5.flat
 have hcl:cs.length=n*KT c:=by
   rw [hcs2,List.length_take,hf2];have:n*KT c≤l2.length*KT c:=Nat.mul_le_mul_right _ (by omega)
   omega
 have hfit:lo*KT c+n*KT c≤l.length*KT c:=by rw [← Nat.add_mul];exact Nat.mul_le_mul_right _ (by omega)
 have hown:=own_put (w:=m.w) (ys:=cs) (c:=lo*KT c) (by rw [hf1]) hh hnc hcm hcs ht (by rw [hf1,hcl];exact hfit)
 obtain⟨hce,hclen⟩:=cpy_elts h5 he2 h1 h2
 have hflat:(cpy uss lo hi uss2).flatten=XK.putL uss.flatten (lo*KT c) cs:=by
   rw [cpy_flat h5.2.1 he2.2.1 h1 (by rw [h5.1];exact h2)]
   have e1:uss2.flatten.take ((hi-lo)*KT c)=cs:=by
     rw [hcs2,hn]
     by_cases hq:hi-lo≤l2.length
     ·rw [Nat.min_eq_left hq]
     ·rw [Nat.min_eq_right (by omega),List.take_of_length_le (by rw [hf2];exact Nat.mul_le_mul_right _ (by omega)),List.take_of_length_le (by rw [hf2];exact Nat.le_refl _)]
   rw [e1,he2.1,← hn];unfold XK.putL;rw [hcl,Nat.add_mul]
 have hlim:=len_le h7;refine Out.upd (hb':=.arr e z c (cpy l lo hi l2)) hS hj hu hfb ⟨_,cpy uss lo hi uss2,hid,?_,hce.le hle,h6,by rw [hclen];exact h7⟩ (fun b' hf=>?_) hd hfr (goInt_den (by omega)) hk
 ·rw [hflat,hclen];exact hown
 ·obtain⟨_,v',h10,h11⟩:=hf;rw [hid]at h10;cases h10;cases h11;rfl
theorem Sat.same {j:Nat} {hb:HB} (h:Sat C σ m ids a) (hj:lk σ.heap j=some hb):Sat C (setH σ j hb) m ids a:=by
 have hl:∀ i,lk (setH σ j hb).heap i=lk σ.heap i:=fun i=>by
   simp only [setH,lk_cons];split
   ·rename_i e;subst e;exact hj.symm
   ·rfl
 exact⟨⟨h.len,⟨fun i hb0 hi=>h.heap.sat i hb0 (by rw [← hl];exact hi),fun i hb0 k hb1 hi hk=>h.heap.sep i hb0 k hb1 (by rw [← hl];exact hi) (by rw [← hl];exact hk),fun i hb0 b hi=>h.heap.fpS i hb0 b (by rw [← hl];exact hi)⟩,fun i hb0 b hi=>h.low i hb0 b (by rw [← hl];exact hi),h.S0,h.S,h.mod,h.glob,h.n0,h.pre⟩,h.toSatF.of rfl rfl rfl⟩
theorem copy_nil (hS:Sat C σ m ids a) (hd:dOK d C.N=true) (hfr:fresh σ d=true) {c j lo hi:Nat} {e:TypeId} {z:Option Bool} {l l2:List (TabT c)} (hj:lk σ.heap j=some (.arr e z c l)) (h1:lo≤hi) (h0:min (hi-lo) l2.length=0)
   (hk:K (setE (setH σ j (.arr e z c (cpy l lo hi l2))) d (.i (min (hi-lo) l2.length:Nat)))):Out C K (a.put d (goInt 0)) m.w:=by
 have e1:cpy l lo hi l2=l:=by
   unfold cpy;rw [h0,Nat.add_zero]
   have:l2.take (hi-lo)=[]:=by
     apply List.eq_nil_of_length_eq_zero;rw [List.length_take];exact h0
   rw [this,List.append_nil,List.take_append_drop]
 rw [e1]at hk;refine⟨_,m.S,ids,(hS.same hj).put hd hfr ?_,hk⟩;rw [h0];exact goInt_den (by omega)
theorem copy_ok (hS:Sat C σ m ids a) (hd:dOK d C.N=true) (hfr:fresh σ d=true) {T U:TypeId} {x y:Operand} {s t:SV} {u v:Value} (hx:XK.ev (envA a) x=some u) (hy:XK.ev (envA a) y=some v) (hs:Den m ids s u) (ht:Den m ids t v)
   (h:vcCopy E σ d T s (fun c=>viewL σ c t) K):StB E C K a m.w ⟨d,.call ⟨.builtin .copy,#[x,y],#[T,U]⟩,ty,pos,af,g⟩:=by
 have e1:=(okx_envA a).ev hx;have e2:=(okx_envA a).ev hy;unfold vcCopy at h;split at h
 ·rename_i e i he;obtain⟨hu,hE,hK,hB⟩:=elemC_spec he;split at h
  ·rename_i l2 j e' z l lo hi hl2 hdst hsz;have hsz:=Nat.eq_of_beq_eq_true hsz;obtain⟨uss2,hr2,hel2⟩:=view_ok hS hl2 ht;obtain⟨hj,h1,h2,hsh,v0,uss,hid,h5,h6,h7,h8,hrow⟩:=dst_row hS hdst hs;have hK1:KT i.code=1:=by rw [hK,hsz]
   obtain⟨inf,q1,q2,q3,q4⟩:=(inf_of' hE).ex;have hs1:(E.P.info? e).map (·.size)=some 1:=by rw [q1,Option.map_some,q3,hsz]
   unfold StB
   by_cases h0:min (hi-lo) l2.length=0
   ·obtain⟨ad,cp,rfl⟩:=hsh;obtain⟨ad2,cp2,rfl,_⟩:=hr2.len;have hr:=run_copy_none (P:=E.P) m.w T U ty e ad ad2 (hi-lo) cp l2.length cp2 hu hs1 (by rw [Nat.min_comm]at h0;exact h0)
    have hout:=copy_nil hS hd hfr hj h1 h0 h;simp only [execOp,resolve,invoke,builtin,Sem.run_bind,Sem.run_pure,Result.andThen_ok,List.map_toArray,List.map_cons,List.map_nil,e1,e2,hr];exact hout
   ·obtain⟨gb,o,cap,cur,cp',rfl,rfl,hh,hnc,hcm,hcs,htk⟩:=hrow (by omega)
    obtain⟨b2,o2,c2,rfl,_,_,hat⟩:=hr2.has (by omega)
    have hcl:(uss2.flatten.take (min (hi-lo) l2.length)).length=Nat.min l2.length (hi-lo):=by
      rw [List.length_take,hel2.flat,hK1,Nat.mul_one];show min _ _=min _ _;omega
    have hr:=run_copy_rowG (P:=E.P) m.w T U ty e gb (o+lo*KT i.code) (hi-lo) cp' ⟨b2,o2,none⟩ l2.length c2 cur e' (uss2.flatten.take (min (hi-lo) l2.length)) hu hs1 hh hcl (fun q w hq=>by
      rw [Addr.add_mid];refine hat q w ?_;rw [List.getElem?_take]at hq;split at hq
      ·exact hq
      ·cases hq) (by
       rw [hcl,hK1,Nat.mul_one];rw [hK1,Nat.mul_one]at hcs;have:Nat.min l2.length (hi-lo)≤hi-lo:=Nat.min_le_right _ _
       omega) (fun w hw=>hel2.one w (List.mem_of_mem_take hw))
    have hout:=copy_out hS hd hfr hj h1 h2 rfl hid h5 h6 h7 hh hnc hcm hcs htk hel2 rfl (cs:=uss2.flatten.take (min (hi-lo) l2.length)) (by rw [hK1,Nat.mul_one]) h
    have e3:Nat.min l2.length (hi-lo)=min (hi-lo) l2.length:=Nat.min_comm _ _;rw [e3]at hcl;rw [hcl]at hr hout;simp only [execOp,resolve,invoke,builtin,Sem.run_bind,Sem.run_pure,Result.andThen_ok,List.map_toArray,List.map_cons,List.map_nil,e1,e2,hr];exact hout
  ·cases h
 ·cases h
theorem zero_flat (z:Array Value) (n:Nat):(Builtin.zeroCells z n).toList=(List.replicate n z.toList).flatten:=made_flat z n
theorem run_clear_none {P:Program} (w:World) (T ty e:TypeId) (ad:Option Addr) (cp:Nat) (hu:P.underlying T=some (.slice e)):(Builtin.clear_ #[T] ty #[.slice ad 0 cp]).run P w=.ok (.tuple #[]) w:=by
 cases ad<;>simp [Builtin.clear_,run_underlying hu]
theorem run_clear_row {P:Program} (w:World) (T ty e:TypeId) (z:Value) (g o n cp:Nat) (cur:Array Value) (t:TypeId) (hu:P.underlying T=some (.slice e)) (hv:(zeroValue e).run P w=.ok z w) (hg:CellsAt w g cur t) (hn:n≠0)
   (hfit:o+(List.replicate n z.cells.toList).flatten.length≤cur.size) (h1:∀ v∈(List.replicate n z.cells.toList).flatten,v.oneCell'=true) :
   (Builtin.clear_ #[T] ty #[.slice (some ⟨g,o,none⟩) n cp]).run P w=.ok (.tuple #[]) (w.setRow g (cur.toList.take o++(List.replicate n z.cells.toList).flatten++cur.toList.drop (o+(List.replicate n z.cells.toList).flatten.length)).toArray):=by
 have hst:=run_storeCells_atG P g o t (List.replicate n z.cells.toList).flatten 0 cur w hg (by simpa using hfit) h1
 rw [Nat.add_zero]at hst
 cases n with
 |zero=>exact absurd rfl hn
 |succ n=>simp only [Builtin.clear_,List.getElem?_toArray,List.getElem?_cons_zero,Sem.run_bind,run_underlying hu,Result.andThen_ok,hv,zero_flat,hst,Sem.run_pure]
theorem clear_ok (hS:Sat C σ m ids a) (hd:dOK d C.N=true) (hfr:fresh σ d=true) {T:TypeId} {x:Operand} {s:SV} {u:Value} (hx:XK.ev (envA a) x=some u) (hs:Den m ids s u)
   (h:vcClear E σ d T s K):StB E C K a m.w ⟨d,.call ⟨.builtin .clear,#[x],#[T]⟩,ty,pos,af,g⟩:=by
 have e1:=(okx_envA a).ev hx;unfold vcClear at h;split at h
 ·rename_i e i he;obtain⟨hu,hE,hK,hB⟩:=elemC_spec he;split at h
  ·rename_i z0 j e' z l lo hi hz0 hdst;obtain⟨inf,q1,q2,q3,q4⟩:=(inf_of' hE).ex;have hsz:=zcells E hE;have hdl:=DC_ok (ids:=[]) (m:=m) i.code hz0 (svs_den _);have hel2:=elts_rep hdl (hi-lo);obtain⟨hj,h1,h2,hsh,v0,uss,hid,h5,h6,h7,h8,hrow⟩:=dst_row hS hdst hs;have hv:(zeroValue e).run E.P m.w=.ok i.z m.w:=by simp [zeroValue,typeInfo,q1,q2]
   have hfl:(List.replicate (hi-lo) i.z.cells.toList).flatten.length=(hi-lo)*KT i.code:=by rw [hel2.flat,List.length_replicate]
   unfold StB
   by_cases h0:hi-lo=0
   ·obtain⟨ad,cp,rfl⟩:=hsh;rw [h0]at e1;have hr:=run_clear_none (P:=E.P) m.w T ty e ad cp hu;have hout:=copy_nil (d:=none) hS hd hfr hj h1 (l2:=List.replicate (hi-lo) z0) (by rw [h0];simp) h
    simp only [execOp,resolve,invoke,builtin,Sem.run_bind,Sem.run_pure,Result.andThen_ok,List.map_toArray,List.map_cons,List.map_nil,e1,hr];exact hout
   ·obtain⟨gb,o,cap,cur,cp',rfl,rfl,hh,hnc,hcm,hcs,htk⟩:=hrow (by omega)
    have hfit:(hi-lo)*KT i.code≤(cap-lo)*KT i.code:=Nat.mul_le_mul_right _ (by omega)
    have hsum:lo*KT i.code+(cap-lo)*KT i.code=cap*KT i.code:=by rw [← Nat.add_mul];congr 1;omega
    have hr:=run_clear_row (P:=E.P) m.w T ty e i.z gb (o+lo*KT i.code) (hi-lo) cp' cur e' hu hv hh h0 (by rw [hfl];omega) (fun w hw=>hel2.one w hw)
    have hout:=copy_out (d:=none) hS hd hfr hj h1 h2 rfl hid h5 h6 h7 hh hnc hcm hcs htk hel2 rfl (cs:=(List.replicate (hi-lo) i.z.cells.toList).flatten) (by
      rw [List.take_of_length_le];rw [hfl,List.length_replicate,Nat.min_self]
      exact Nat.le_refl _) h
    simp only [execOp,resolve,invoke,builtin,Sem.run_bind,Sem.run_pure,Result.andThen_ok,List.map_toArray,List.map_cons,List.map_nil,e1,hr];exact hout
  ·cases h
 ·cases h
theorem bytes_elts {m:Mm}:∀ (l:List UInt8),Elts (KT 3) (TabD 3) m l (l.map fun b=>[Value.int .u8 b.toNat])
 |[]=>Elts.nil
 |x::r=>by
   have ih:=bytes_elts (m:=m) r;refine⟨List.length_map ..,fun q hq=>?_,fun i y hy=>?_⟩
   ·rcases List.mem_cons.1 hq with rfl|hq
    ·rfl
    ·exact ih.2.1 q hq
   ·cases i with
    |zero=>cases hy;exact⟨_,rfl,.int .u8 x.toNat,[],rfl,rfl,rfl⟩
    |succ i=>exact ih.2.2 i y hy
theorem bytes_flat:∀ (l:List UInt8),(l.map fun b=>[Value.int .u8 b.toNat]).flatten=Lib.byteCells l
 |[]=>rfl
 |x::r=>by rw [List.map_cons,List.flatten_cons,bytes_flat r];rfl
theorem copyS_ok (hS:Sat C σ m ids a) (hd:dOK d C.N=true) (hfr:fresh σ d=true) {T U:TypeId} {x y:Operand} {s:SV} {t:ByteArray} {u v:Value} (hx:XK.ev (envA a) x=some u) (hy:XK.ev (envA a) y=some v) (hs:Den m ids s u) (ht:Den m ids (.str t) v)
   (h:vcCopyS E σ d T s t K):StB E C K a m.w ⟨d,.call ⟨.builtin .copy,#[x,y],#[T,U]⟩,ty,pos,af,g⟩:=by
 have e1:=(okx_envA a).ev hx;have e2:=(okx_envA a).ev hy;rw [Den]at ht;obtain⟨rfl,hts⟩:=ht;unfold vcCopyS at h;split at h
 ·rename_i e i he;obtain⟨hu,hE,hK,hB⟩:=elemC_spec he;split at h
  ·rename_i ksz kbt kz keq j e' z l lo hi hTe hdst;rw [hE]at hTe;cases hTe;obtain⟨⟨hle⟩,hk⟩:=h;obtain⟨hj,h1,h2,hsh,v0,uss,hid,h5,h6,h7,h8,hrow⟩:=dst_row hS hdst hs;obtain⟨inf,q1,q2,q3,q4⟩:=(inf_of' hE).ex;have hK1:KT 3=1:=rfl;have hK':KT 3=ksz:=hK;have hs1:(E.P.info? e).map (·.size)=some 1:=by rw [q1,Option.map_some,q3];exact congrArg some hK'.symm
   have htl:List.length (α:=TabT 3) t.data.toList=t.size:=(Lib.size_eq t).symm
   have hmin:min (hi-lo) (List.length (α:=TabT 3) t.data.toList)=t.size:=by
     rw [htl];exact Nat.min_eq_right hle
   unfold StB
   by_cases h0:t.size=0
   ·obtain⟨ad,cp,rfl⟩:=hsh;have hr:=Lib.run_copy_empty_string (P:=E.P) m.w T U ty e ad (hi-lo) cp t hu (by rw [q1];rfl) h0
    have hout:=copy_nil (l2:=t.data.toList) (c:=3) hS hd hfr hj h1 (by rw [hmin];exact h0) (K:=K) (by rw [hmin];exact hk)
    simp only [execOp,resolve,invoke,builtin,Sem.run_bind,Sem.run_pure,Result.andThen_ok,List.map_toArray,List.map_cons,List.map_nil,e1,e2,hr];exact hout
   ·obtain⟨gb,o,cap,cur,cp',rfl,rfl,hh,hnc,hcm,hcs,htk⟩:=hrow (Nat.lt_of_sub_pos (Nat.lt_of_lt_of_le (Nat.pos_of_ne_zero h0) hle))
    have hr:=run_copy_stringG (P:=E.P) m.w T U ty e gb (o+lo*KT 3) (hi-lo) cp' t cur e' hu hs1 hh hle (by
        rw [hK1,Nat.mul_one];rw [hK1,Nat.mul_one]at hcs;clear hK' hB hts h7 hmin htl
        omega)
    have hel2:=bytes_elts (m:=m) t.data.toList;have hbl:(Lib.byteCells t.data.toList).length=t.size:=by rw [Lib.byteCells_length,← Lib.size_eq]
    have hout:=copy_out (c:=3) (l2:=t.data.toList) (n:=t.size) hS hd hfr hj h1 h2 rfl hid h5 h6 h7 hh hnc hcm hcs htk hel2 hmin.symm (cs:=Lib.byteCells t.data.toList) (by rw [bytes_flat,hK1,Nat.mul_one,List.take_of_length_le (Nat.le_of_eq hbl)]) hk
    simp only [execOp,resolve,invoke,builtin,Sem.run_bind,Sem.run_pure,Result.andThen_ok,List.map_toArray,List.map_cons,List.map_nil,e1,e2,hr];rw [hbl]at hout;exact hout
  ·cases h
 ·cases h
theorem append_okS (hS:Sat C σ m ids a) (hd:dOK d C.N=true) (hfr:fresh σ d=true) {T U:TypeId} {x y:Operand} {s:SV} {t:ByteArray} {u v:Value} (hx:XK.ev (envA a) x=some u) (hy:XK.ev (envA a) y=some v) (hs:Den m ids s u) {ids0:List Value} (ht:Den m ids0 (.str t) v) (hU:E.P.underlying U=some .string)
   (h:vcAppendS E σ d T s t K):StB E C K a m.w ⟨d,.call ⟨.builtin .append,#[x,y],#[T,U]⟩,ty,pos,af,g⟩:=by
 rw [Den]at ht;obtain⟨rfl,_⟩:=ht;unfold vcAppendS at h;split at h
 ·rename_i e0 i0 he0;split at h
  ·rename_i ksz kbt kz keq hTe;unfold vcAppend at h;split at h
   ·rename_i e i he;obtain⟨hu,hE,hK,hB⟩:=elemC_spec he;rw [he0]at he;cases he;rw [hE]at hTe;cases hTe;have hsz:=zcells E hE;have hK1:KT 3=1:=rfl;have hK':KT 3=ksz:=hK;split at h
    ·rename_i l2 hl2;obtain⟨ec,hl2⟩:=castL_some hl2;have hl2:t.data.toList=l2:=hl2;subst hl2;obtain⟨tl,htl⟩:∃ tl:List (TabT 3),tl=t.data.toList:=⟨_,rfl⟩;obtain⟨tu,hel2,hfl⟩:∃ tu:List (List Value),Elts (KT 3) (TabD 3) m tl tu∧tu.flatten=Go.byteCells t:=⟨_,by rw [htl];exact bytes_elts (m:=m) t.data.toList,bytes_flat _⟩
     have hll:List.length tl=t.size:=by rw [htl];exact(Lib.size_eq t).symm
     rw [← htl]at h;have hin:=inf_of' hE;rw [← hK',hK1]at hin;split at h
     ·cases den_v hs;obtain⟨⟨hb⟩,hk⟩:=h;have ho:OwnQ m.w 0 e0 1 (.slice none 0 0) 0 []:=⟨by simp,.inl ⟨rfl,rfl⟩⟩
      refine stB_of (Stp.appendQS hu hU hin (by rw [hsz,← hK',hK1]) hx hy ho (Nat.zero_le _) (by rw [Nat.zero_add,← hB,← hll];exact hb) (by rw [Nat.zero_add,← hll];have:=len_le hb;unfold maxLen;omega) fun v' w' h1 h2 h3=>?_)
      rw [Nat.zero_add,List.nil_append,← hfl,← hll]at h1;refine new_arr (c:=3) (z:=none) hS hd hfr ⟨h2.os,h2.tape,h2.output,h2.size,fun k hk=>h2.block k hk (by simp [Value.ownBlock])⟩ h1 (fun b hb'=>?_) hel2 trivial hb hk
      obtain⟨ad,c2,rfl,_⟩:=h1.reads.len
      cases ad with
      |none=>cases hb'
      |some ad =>
                   cases hb';rcases h3 _ rfl with h4|h4
                   ·cases h4
                   ·exact h4
     ·rename_i j;split at h
      ·rename_i e' z c' l' hj;split at h
       ·rename_i l hcast hee;obtain⟨ec,hcast⟩:=castL_some hcast;have ec3:c'=3:=ec;subst ec3;have hcast:l'=l:=hcast;subst hcast;have hee:=Nat.eq_of_beq_eq_true hee;subst hee;obtain⟨⟨hb⟩,hk⟩:=h;rw [Den]at hs;obtain⟨v0,uss,q1,q2,q3,q4,q5⟩:=hS.heap.sat j _ hj;rw [hs.1]at q1;cases q1;rw [hK1]at q2;refine stB_of (Stp.appendQS hu hU hin (by rw [hsz,← hK',hK1]) hx hy q2 (Nat.zero_le _) (by rw [← hB,← hll];exact hb) (by rw [← hll];have:=len_le hb;unfold maxLen;omega) fun v' w' h1 h2 h3=>?_)
        have ho1:v'.oneCell'=true:=by obtain⟨_,_,rfl,_⟩:=h1.reads.len;rfl
        have hown:∀ k,u.ownBlock=some k→Fp ids j (.arr e0 z 3 l') k:=fun k hk=>by
          refine⟨rfl,u,hs.1,hasB_of ?_⟩;obtain⟨ad,c2,rfl,_⟩:=q2.reads.len
          cases ad with
          |none=>simp [Value.ownBlock]at hk
          |some ad=>simpa [Value.ownBlock,blkOf] using hk
        have hmod:Mod (fun b=>Fp ids j (.arr e0 z 3 l') b) m.w w':=Mod.of_grown h2 fun k hk=>hown k hk
        have hnS:∀ b,Fp ids j (.arr e0 z 3 l') b→¬ m.S b:=fun b hb0=>hS.heap.fpS j _ b hj hb0
        have hle:m.le ⟨w',m.S⟩:=⟨fun k hk=>⟨hk,hmod.block k (hS.S k hk).1 fun e=>hnS k e hk⟩,hmod.size⟩
        have hel:Elts (KT 3) (TabD 3) m (l'++tl) (uss++tu):=by
          refine⟨by simp [q3.1,hel2.1],fun q hq=>?_,fun i' x' hx'=>?_⟩
          ·rcases List.mem_append.1 hq with hq|hq
           ·exact q3.2.1 q hq
           ·exact hel2.2.1 q hq
          ·by_cases hlt:i'<l'.length
           ·rw [List.getElem?_append_left hlt]at hx';rw [List.getElem?_append_left (by rw [q3.1];exact hlt)]
            exact q3.2.2 i' x' hx'
           ·rw [List.getElem?_append_right (by omega)]at hx'
            rw [List.getElem?_append_right (by rw [q3.1];omega),q3.1]
            exact hel2.2.2 _ x' hx'
        refine⟨_,m.S,ids++[v'],(hS.repl hj hmod v' (.arr e0 none 3 (l'++tl)) ⟨v',uss++tu,by simp [setH,last_get hS],?_,hel.le hle,trivial,by rw [List.length_append];exact hb⟩ fun b hf=>?_).put hd hfr ?_,hk⟩
        ·rw [List.length_append,List.flatten_append,hfl,hll];exact h1
        ·have hb':=hasB_one ho1 (fp_last hS hf);obtain⟨ad,c2,rfl,_⟩:=h1.reads.len
         cases ad with
         |none=>cases hb'
         |some ad =>
           cases hb';exact(h3 _ rfl).imp (fun q=>hown _ q) id
        ·rw [Den];exact⟨last_get hS v',ho1⟩
       ·cases h
      ·cases h
     ·cases h
    ·cases h
   ·cases h
  ·cases h
 ·cases h
theorem mput_map {kc vc:Nat} (x:TabT kc) (y:TabT vc):∀ (l:List (TabT kc×TabT vc)),mput (l.map fun p=>(p.1,TV vc p.2)) x (TV vc y)=(mputT l x y).map fun p=>(p.1,TV vc p.2)
 |[]=>rfl
 |(k,u)::r=>by
   rw [List.map_cons,mputT];unfold mput;rw [mput_map x y r]
   by_cases h:x=k
   ·rw [if_pos h,if_pos (by simpa using h)];rfl
   ·rw [if_neg h,if_neg (by simpa using h)];rfl
theorem mputT_mem {kc vc:Nat} {x:TabT kc} {y:TabT vc}:∀ {l:List (TabT kc×TabT vc)} {p:TabT kc×TabT vc},p∈mputT l x y→p=(x,y)∨p∈l
 |[],p,h=>.inl (by simpa [mputT] using h)
 |(k,u)::r,p,h=>by
   rw [mputT]at h;split at h
   ·rcases List.mem_cons.1 h with h|h
    ·exact .inl h
    ·exact .inr (List.mem_cons_of_mem _ h)
   ·rcases List.mem_cons.1 h with h|h
    ·exact .inr (by rw [h];exact List.mem_cons_self ..)
    ·exact(mputT_mem h).imp id (List.mem_cons_of_mem _)
theorem map_ok (hS:Sat C σ m ids a) (hd:dOK d C.N=true) (hfr:fresh σ d=true) {T:TypeId} (h:vcMap E σ d T K):StE E C K a m.w ⟨d,.makeMap T none,ty,pos,af,g⟩:=by
 unfold vcMap at h;split at h
 ·split at h
  ·rename_i kc vc _ _;split at h
   ·refine stE_of (Stp.makeMap (TV kc) fun w' hext hsz hr=>⟨hext,?_⟩)
    refine Out.new hS hext _ (.mp kc vc []) ⟨m.w.heap.size,last_get hS _,hr,fun p hp=>by cases hp⟩ (fun b hf=>?_) hd hfr (den_osl hS w' _ rfl) h
    have:=fp_last hS hf;cases this;exact Nat.le_refl _
   ·cases h
  ·cases h
 ·cases h
theorem put_ok (hS:Sat C σ m ids a) (hd:dOK d C.N=true) (hfr:fresh σ d=true) {T:TypeId} {x y z:Operand} {s k t:SV} {u v q:Value} (hx:XK.ev (envA a) x=some u) (hy:XK.ev (envA a) y=some v) (hz:XK.ev (envA a) z=some q)
   (hs:Den m ids s u) (hk:Den m ids k v) (ht:Den m ids t q) (h:vcPut E σ d T s k t K):StB E C K a m.w ⟨d,.mapUpdate T x y z,ty,pos,af,g⟩∧StB E C K a m.w ⟨d,.insert T x y z,ty,pos,af,g⟩:=by
 unfold vcPut at h;split at h
 ·rename_i kt vt _ _ _ _ _ i hT;have hu:E.P.underlying T=some (.map kt vt):=kn_of hT;split at h
  ·rename_i kc vc l hl;split at h
   ·rename_i x0 y0 hKO hgk hq hy0 hgv;have hkey:=E.hK _ _ hKO;rw [Den]at hs;obtain⟨b,h1,h2,h3⟩:=hS.heap.sat i _ hl;rw [hs.1]at h1;cases h1;obtain⟨hv,_⟩:=GV kc hgk hq hk;subst hv;obtain⟨hw,hdl⟩:=GV vc hgv hy0 ht;subst hw;have hfb:Fp ids i (.mp kc vc l) b:=⟨rfl,_,hs.1,rfl⟩
    have fin:∀ w',Upd b m.w w'→MRow w' b (TV kc) (mput (l.map fun p=>(p.1,TV vc p.2)) x0 (TV vc y0))→Out C K (a.put d undef) w':=fun w' hup hr=>by
      have hle:=le_upd hS hl hfb hup;rw [mput_map]at hr;refine Out.upd (hb':=.mp kc vc (mputT l x0 y0)) hS hl hup hfb ⟨b,hs.1,hr,fun p hp=>?_⟩ (fun b' hf=>?_) hd hfr (by rw [Den]) h
      ·rcases mputT_mem hp with rfl|hp
       ·exact hdl.le hle
       ·exact(h3 p hp).le hle
      ·obtain⟨_,v',h10,h11⟩:=hf;rw [hs.1]at h10;cases h10;cases h11;rfl
    exact⟨stB_of (Stp.mapUpdate hu hkey hx hy hz h2 fin),stB_of (Stp.insert hu hkey hx hy hz h2 fin)⟩
   ·cases h
  ·cases h
 ·cases h
theorem den_lst {m:Mm} {ids:List Value} {z:Option Bool} {c:Nat} {l:List (TabT c)} {y:Value}:Den m ids (.lst z c l) y↔LD (KT c) (BT c) (TabD c) z l m y:=by rw [Den]
theorem Sat.addS {b:Nat} (h:Sat C σ m ids a) (hb:b<m.w.heap.size) (h0:C.w0.heap.size≤b) (hn:∀ i hb,lk σ.heap i=some hb→¬ Fp ids i hb b):Sat C σ ⟨m.w,fun k=>m.S k∨k=b⟩ ids a:=by
 have hle:m.le ⟨m.w,fun k=>m.S k∨k=b⟩:=⟨fun k hk=>⟨.inl hk,rfl⟩,Nat.le_refl _⟩
 refine⟨⟨h.len,⟨fun i hb0 hi=>(h.heap.sat i hb0 hi).le hle fun _ _=>rfl,h.heap.sep,fun i hb0 c hi f1 f2=>?_⟩,h.low,fun c hc=>.inl (h.S0 c hc),fun c hc=>?_,h.mod,h.glob.le hle,h.n0,h.pre⟩,h.toSatF.le hle⟩
 ·rcases f2 with f2|rfl
  ·exact h.heap.fpS i hb0 c hi f1 f2
  ·exact hn i hb0 hi f1
 ·rcases hc with hc|rfl
  ·exact h.S c hc
  ·exact⟨hb,.inr (.inr h0)⟩
theorem Sat.addS2 {b:Nat} (h:Sat C σ m ids a) (hb:b<m.w.heap.size) (h0:C.T0 b∨C.w0.heap.size≤b) (hn:∀ i hb,lk σ.heap i=some hb→¬ Fp ids i hb b):Sat C σ ⟨m.w,fun k=>m.S k∨k=b⟩ ids a:=by
 have hle:m.le ⟨m.w,fun k=>m.S k∨k=b⟩:=⟨fun k hk=>⟨.inl hk,rfl⟩,Nat.le_refl _⟩
 refine⟨⟨h.len,⟨fun i hb0 hi=>(h.heap.sat i hb0 hi).le hle fun _ _=>rfl,h.heap.sep,fun i hb0 c hi f1 f2=>?_⟩,h.low,fun c hc=>.inl (h.S0 c hc),fun c hc=>?_,h.mod,h.glob.le hle,h.n0,h.pre⟩,h.toSatF.le hle⟩
 ·rcases f2 with f2|rfl
  ·exact h.heap.fpS i hb0 c hi f1 f2
  ·exact hn i hb0 hi f1
 ·rcases hc with hc|rfl
  ·exact h.S c hc
  ·exact⟨hb,.inr h0⟩
theorem buildF_ok (hS:Sat C σ m ids a) (hd:dOK d C.N=true) (hfr:fresh σ d=true) {T:TypeId} {n:Nat} {parts:Array (Nat×Operand)} {ps:List (Nat×SV)} {vs:List (Nat×Value)} (hv:XK.pevs (envA a) parts.toList=some vs) (hdn:DenN m ids ps vs) (h:vcBuildF E σ d T n ps K) :
   StE E C K a m.w ⟨d,.buildSlice T n parts,ty,pos,af,g⟩:=by
 unfold vcBuildF at h;split at h
 ·rename_i e _ _ _ _ _ hT;have hu:E.P.underlying T=some (.slice e):=kn_of hT;split at h
  ·rename_i i hE;split at h
   ·rename_i cs hp h1 hb;have h1:=Nat.eq_of_beq_eq_true h1;rw [Bool.and_eq_true]at hb;have hb1:=Nat.le_of_ble_eq_true hb.1;have hb2:=Nat.le_of_ble_eq_true hb.2;have hsz:=zcells E hE;obtain⟨cells,h5,h6⟩:=partsA_ok (place:=fun j=>some (j*1,1)) (fun _=>rfl) (cells:=madeCells i.z.cells (n*i.z.cells.size)) hp hdn (by rw [made_flat];exact rep_den (svs_den _) n)
    split at h
    rotate_left
    ·cases h
    rename_i hln;have hlc:cells.toList.length=n:=by rw [h6.length,← len_eq];exact Nat.eq_of_beq_eq_true hln
    refine stE_of (Stp.buildSlice (size:=1) (cells:=cells.toList) hu (by rw [← h1];exact inf_of' hE) ?_ ?_ hv ?_ fun w' hext hw hr=>⟨hext,?_⟩)
    ·rw [Nat.mul_one];exact Nat.ble_eq_true_of_le (by omega)
    ·rw [Nat.mul_one];exact Nat.ble_eq_true_of_le hb1
    ·rw [hsz,h1]at h5;rw [Array.toArray_toList];exact h5
    ·have h0:=hS.mod.size
     have hS':=(hS.ext hext).addS (b:=m.w.heap.size) (by show _<w'.heap.size;omega) h0 fun i hb hi hf=>by
       have:=fp_lt (hS.heap.sat i hb hi) hf;omega
     refine⟨_,_,ids,hS'.put (s:=.fsl cs) hd hfr ?_,h⟩;rw [Den];refine⟨m.w.heap.size,0,cells.toList,by rw [hlc],by omega,.inr rfl,hr.at,?_⟩
     exact DenL.le (m':=⟨w',fun k=>m.S k∨k=m.w.heap.size⟩) ⟨fun b hb=>⟨.inl hb,hext.block b (hS.S b hb).1⟩,hext.size⟩ cs h6
   ·cases h
  ·cases h
 ·cases h
theorem freeze_upd (w:World) (b k:Nat):Upd b w (w.freeze ⟨b,k,none⟩ 1):=by
 unfold World.freeze;rw [if_neg (by decide)]
 refine⟨rfl,rfl,rfl,by simp,fun j hj=>?_⟩
 simp only;rw [Array.getElem?_modify,if_neg (fun e=>hj e.symm)]
theorem freeze_cell (w:World) (b k:Nat) (c:Addr):(w.freeze ⟨b,k,none⟩ 1).cell? c=w.cell? c:=by
 by_cases hc:c.block=b
 ·unfold World.freeze;rw [if_neg (by decide)]
  simp only [World.cell?];rw [Array.getElem?_modify,if_pos hc.symm]
  cases w.heap[c.block]? with
  |none=>rfl
  |some o=>cases o<;>rfl
 ·exact World.cell?_of_block ((freeze_upd w b k).block c.block hc)
theorem mark_ok (hS:Sat C σ m ids a) (hd:dOK d C.N=true) (hfr:fresh σ d=true) {S T:TypeId} {x:Operand} {s:SV} {u:Value} (hx:XK.ev (envA a) x=some u) (hs:Den m ids s u) (h:vcMark E σ d S T s K) :
   StB E C K a m.w ⟨d,.convert S T x,ty,pos,af,g⟩:=by
 have e1:=(okx_envA a).ev hx;unfold vcMark at h;split at h
 ·rename_i e _ _ _ _ _ j hST hT;have hST:=Nat.eq_of_beq_eq_true hST;subst hST;have hu:E.P.underlying S=some (.slice e):=kn_of hT;split at h
  ·rename_i e' z y l hTe hj;have hue:E.P.underlying e=some (.int .u8):=kn_of hTe;split at h
   ·rename_i he;have he:=Nat.eq_of_beq_eq_true he;subst he;rw [Den]at hs;obtain⟨v,uss,h1,h2,h3,h4,h5⟩:=hS.heap.sat j _ hj;rw [hs.1]at h1;cases h1;rcases h2.2 with ⟨_,hn⟩|⟨gb,o,cap,cur,rfl,_,hh,hnc,hcm,hcs,htake⟩
    ·simp at hn
    ·have hup:=freeze_upd m.w gb cur.size
     have hr:(convert S S (.slice (some ⟨gb,o,none⟩) (y::l).length cap)).run E.P m.w=.ok (.slice (some ⟨gb,o,none⟩) (y::l).length cap) (m.w.freeze ⟨gb,cur.size,none⟩ 1):=by
       have hsh:m.w.shape? gb=some (e,cur.size):=by obtain⟨fr,hh,_⟩:=hh.ex;simp [World.shape?,hh]
       simp [convert,run_underlying hu,run_underlying hue,markStringish,hsh]
     have hfb:Fp ids j (.arr e z 3 (y::l)) gb:=⟨rfl,_,hs.1,rfl⟩;have hS1:=hS.updB (hb':=.gone) hj hup hfb trivial (fun b' hf=>by cases hf.1)
     have hlow:=hS.low j _ gb hj hfb
     have hS2:=hS1.addS2 (b:=gb) (by show gb<(m.w.freeze _ 1).heap.size;rw [hup.size];exact hh.lt) hlow fun i hb hi hf=>by
       simp only [setH,lk_cons]at hi;split at hi
       ·cases hi;cases hf.1
       ·rename_i hne;exact hS.heap.sep i hb j _ hi hj (Ne.symm hne) gb hf hfb
     have hle:m.le ⟨m.w.freeze ⟨gb,cur.size,none⟩ 1,fun k=>m.S k∨k=gb⟩:=⟨fun k hk=>⟨.inl hk,hup.block k fun e=>hS.heap.fpS j _ gb hj hfb (e▸hk)⟩,Nat.le_of_eq hup.size.symm⟩
     unfold StB;simp only [execOp,e1,Sem.run_bind,hr,Result.andThen_ok,Sem.run_pure];refine⟨_,_,ids,hS2.put (s:=.lst none 3 (y::l)) hd hfr ?_,h⟩;refine(den_lst (c:=3)).2 ⟨uss,?_,h3.le hle,fun _ b hb=>?_,trivial,h5⟩
     ·have hrd:=h2.reads;refine⟨hrd.1,?_⟩;rcases hrd.2 with q|⟨b',o',c',q1,q2,q3,q4⟩
      ·exact .inl q
      ·exact .inr ⟨b',o',c',q1,q2,q3,fun i v hi=>by rw [freeze_cell];exact q4 i v hi⟩
     ·cases hb;exact .inr rfl
   ·cases h
  ·cases h
 ·cases h
theorem bytes_ok (hS:Sat C σ m ids a) (hd:dOK d C.N=true) (hfr:fresh σ d=true) {S T:TypeId} {x:Operand} {s:SV} {u:Value} (h1:isStr E S=true) (hx:XK.ev (envA a) x=some u) (hs:Den m ids s u) (h:vcBytes E σ d T s K) :
   StE E C K a m.w ⟨d,.convert S T x,ty,pos,af,g⟩:=by
 have e1:=(okx_envA a).ev hx;have hS1:=isStr_spec h1;unfold vcBytes at h;split at h
 ·rename_i e i s he;obtain⟨hu,hE,hK,hB⟩:=elemC_spec he;split at h
  ·rename_i hc hTe;have hc:=Nat.eq_of_beq_eq_true hc;obtain⟨⟨hlim⟩,hk⟩:=h;have hue:E.P.underlying e=some (.int .u8):=kn_of hTe;rw [Den]at hs;obtain⟨rfl,_⟩:=hs;have hr:=Lib.run_convert_string_bytes (P:=E.P) m.w S T e s hS1 hu hue;have hext:Ext m.w (Lib.bytesWorld m.w e s):=Lib.bytesWorld_below _ _ _;have hsz:(Lib.bytesWorld m.w e s).heap.size=m.w.heap.size+1:=Lib.bytesWorld_size _ _ _;have h0:=hS.mod.size
   have hS':=(hS.ext hext).addS (b:=m.w.heap.size) (by show _<(Lib.bytesWorld m.w e s).heap.size;omega) h0 fun i hb hi hf=>by
     have:=fp_lt (hS.heap.sat i hb hi) hf;omega
   have hout:Out C K (a.put d (.slice (some ⟨m.w.heap.size,0,none⟩) s.size (grownCap m.w s.size 0 e))) (Lib.bytesWorld m.w e s):=by
     refine⟨_,_,ids,hS'.put (s:=.lst none 3 s.data.toList) hd hfr ?_,hk⟩;refine(den_lst (c:=3)).2 ?_;have hel:=bytes_elts (m:=⟨Lib.bytesWorld m.w e s,fun k=>m.S k∨k=m.w.heap.size⟩) s.data.toList
     have hll:List.length (α:=TabT 3) s.data.toList=s.size:=(Lib.size_eq s).symm;refine⟨_,?_,hel,fun _ b hb=>?_,trivial,?_⟩
     ·rw [bytes_flat];refine⟨?_,?_⟩
      ·rw [Lib.byteCells_length];exact(Nat.mul_one _).symm
      ·refine .inr ⟨m.w.heap.size,0,_,by rw [hll],by rw [hll];exact grownCap_ge _ _ _ _,grownCap_le_maxLen _ _ _ _ (by unfold maxLen;omega),fun j v hj=>?_⟩
       have hlt:j<s.size:=by
         have:=(List.getElem?_eq_some_iff.1 hj).1;rw [Lib.byteCells_length,← Lib.size_eq]at this;exact this
       have hc:=Lib.bytesWorld_cell m.w e s j hlt;rw [Nat.zero_add];refine hc.trans ?_;rw [← hj];unfold Lib.byteCells;rw [List.getElem?_map,List.getD_eq_getElem?_getD];have hlt2:j<s.data.toList.length:=by rw [← Lib.size_eq];exact hlt
       rw [List.getElem?_eq_getElem hlt2];rfl
     ·cases hb;exact .inr rfl
     ·rw [hll];unfold LIM;have:BT 3=1:=rfl;rw [this,Nat.mul_one];omega
   unfold StE;simp only [execOp,e1,Sem.run_bind,hr,Result.andThen_ok,Sem.run_pure];exact⟨hext,hout⟩
  ·cases h
 ·cases h
theorem bytesO_ok (hS:Sat C σ m ids a) (hd:dOK d C.N=true) (hfr:fresh σ d=true) {S T:TypeId} {x:Operand} {s:SV} {u:Value} (h1:isStr E S=true) (hx:XK.ev (envA a) x=some u) (hs:Den m ids s u) (h:vcBytesO E σ d T s K) :
   StE E C K a m.w ⟨d,.convert S T x,ty,pos,af,g⟩:=by
 have e1:=(okx_envA a).ev hx;have hS1:=isStr_spec h1;unfold vcBytesO at h;split at h
 ·rename_i e i s he;obtain⟨hu,hE,hK,hB⟩:=elemC_spec he;split at h
  ·rename_i hc hTe;obtain⟨⟨hlim⟩,hk⟩:=h;have hue:E.P.underlying e=some (.int .u8):=kn_of hTe;rw [Den]at hs;obtain⟨rfl,_⟩:=hs;have hr:=Lib.run_convert_string_bytes (P:=E.P) m.w S T e s hS1 hu hue;have hext:Ext m.w (Lib.bytesWorld m.w e s):=Lib.bytesWorld_below _ _ _;have hge:s.size≤grownCap m.w s.size 0 e:=grownCap_ge _ _ _ _;have hll:List.length (α:=TabT 3) s.data.toList=s.size:=(Lib.size_eq s).symm;have hel:=bytes_elts (m:=m) s.data.toList;have hbl:(Lib.byteCells s.data.toList).length=s.size:=by rw [Lib.byteCells_length,← Lib.size_eq]
   have hsd:s.data.size=s.size:=rfl
   have hown:OwnQ (Lib.bytesWorld m.w e s) 0 e (KT 3) (.slice (some ⟨m.w.heap.size,0,none⟩) s.size (grownCap m.w s.size 0 e)) s.size (Lib.byteCells s.data.toList):=by
     have hK1:KT 3=1:=rfl;rw [hK1];refine⟨by rw [hbl,Nat.mul_one],.inr ⟨m.w.heap.size,0,_,Lib.bytesCells m.w e s,rfl,Nat.zero_le _,⟨⟨_,Lib.bytesWorld_at_new m.w e s,.inr (Nat.le_refl _)⟩⟩,hge,grownCap_le_maxLen _ _ _ _ (by unfold maxLen;omega),?_,?_⟩⟩
     ·unfold Lib.bytesCells;rw [Array.size_append,Array.size_map,Array.size_replicate,hsd];omega
     ·unfold Lib.bytesCells;rw [List.drop_zero,Nat.mul_one,Array.toList_append,Array.toList_map];have:(List.map (fun b:UInt8=>Value.int .u8 (b.toNat:Int)) s.data.toList).length=s.size:=by rw [List.length_map];exact hll
      rw [List.take_append_of_le_length (by omega),List.take_of_length_le (by omega)]
      rfl
   have hout:Out C K (a.put d (.slice (some ⟨m.w.heap.size,0,none⟩) s.size (grownCap m.w s.size 0 e))) (Lib.bytesWorld m.w e s):=by
     refine new_arr (z:=none) (c:=3) (l:=s.data.toList) (uss:=s.data.toList.map fun b=>[Value.int .u8 b.toNat]) hS hd hfr hext ?_ (fun b hb=>by cases hb;exact Nat.le_refl _) hel trivial (by rw [hll];have:BT 3=1:=rfl;rw [this,Nat.mul_one];omega) hk
     rw [hll,bytes_flat];exact hown
   unfold StE;simp only [execOp,e1,Sem.run_bind,hr,Result.andThen_ok,Sem.run_pure];exact⟨hext,hout⟩
  ·cases h
 ·cases h
end
end Go.SX
