/- A part of the proof (texts Field, SK, SL, SM, QStr, SN). -/
import Derived.Deep.AppendSrc
import Derived.Laws.CopyRow
import Derived.Lib.AppendZerosOnto
import Derived.Lib.AtoiErrMem
import Derived.Lib.BufferWrite
import Derived.Lib.ConvBytes
import Derived.Test.YtpndeclljmdjkaaGreatDoorP01
import Derived.Test.YtpndeclljmdjkaaGreatDoorP02
import Derived.Test.YtpndeclljmdjkaaGreatDoorP05
set_option linter.all false
set_option maxRecDepth 100000
namespace Go.XK
open List renaming replicate -> dJ,getElem?_eq_getElem -> bZ,length_append -> dL
open Nat renaming eq_of_beq_eq_true -> dI
open Go.RowKit
def sV (l:List Value) (o:Nat) (vs:List Value):List Value:=l.take o++vs++l.drop (o+vs.length)
theorem AL {l:List Value} {o:Nat} {vs:List Value} (h:o+vs.length<=l.length) (j:Nat):(sV l o vs)[j]?=if o<=j/\j<o+vs.length then vs[j-o]? else l[j]?:=by
 unfold sV
 by_cases h1:j<o
 ·rw [List.append_assoc,List.getElem?_append_left (by rw [List.length_take];omega),List.getElem?_take,if_pos h1,if_neg au]
 ·by_cases h2:j<o+vs.length
  ·rw [List.getElem?_append_left (by rw [dL,List.length_take];omega),List.getElem?_append_right (by rw [List.length_take];omega),List.length_take,if_pos au]
   congr 1
   omega
  ·rw [List.getElem?_append_right (by rw [dL,List.length_take];omega),List.getElem?_drop,dL,List.length_take,if_neg au]
   congr 1
   omega
theorem sU {l:List Value} {o:Nat} {vs:List Value} (h:o+vs.length<=l.length):(sV l o vs).length=l.length:=by
 unfold sV;simp;omega
section
variable {P:Program} {env:List (Nat×Value)} {d:Option Tmp} {ty:TypeId} {pos:String} {af:Array Edge} {g:Option (Nat×Bool)}
theorem Stp.XI {w:World} {T T':TypeId} {x y:Operand} {b o:Nat} {v:Value} {old:List Value} {K:Value->World->Prop} (hs:(P.info? T).map (·.size)=some v.cells.size) (hx:ev env x=some (.pointer (some ⟨b,o,none⟩))) (hy:ev env y=some v)
   (hr:Row w b T' old) (hl:o+v.cells.toList.length<=old.length) (h1:v.cells.toList.all (·.oneCell')=true) (h:∀ w',Bu b w w'->Row w' b T' (sV old o v.cells.toList)->K undef w'):Stp P env w ⟨d,.store T x y,ty,pos,af,g⟩ K:=fun a N ha=>by
 have hst:=run_storeCells_at P b o T' v.cells.toList 0 old.toArray w hr (by simpa using hl) (fun u hu=>List.all_eq_true.1 h1 u hu)
 cases hi:P.info? T with
 |none=>rw [hi]at hs;cases hs
 |some inf =>
   rw [hi]at hs;simp only [Option.map_some,Option.some.injEq]at hs
   have hrun:(storeVar T ⟨b,o,none⟩ v).run P w=.ok () (w.setRow b (sV old o v.cells.toList).toArray):=by
     simp only [storeVar,Sem.run_bind,sizeOf,typeInfo];simp only [Nat.add_zero]at hst;simp [hi,hs,hst,sV]
   simp only [execOp,ha.ev hx,ha.ev hy,Instr.storeAt,Instr.sureAddr,Sem.run_bind,Sem.run_pure,Result.andThen_ok,hrun];exact h _ (uG w b _) (by have:=setRow_heap w b old.toArray (sV old o v.cells.toList).toArray T' (0,0) hr;unfold Row;simpa using this)
theorem Stp.XH {w:World} {T:TypeId} {x y:Operand} {base:Nat} {e:TypeId} {size n c:Nat} {v u:Value} {xs:List Value} {K:Value->World->Prop} (hs:(P.info? T).map (·.size)=some u.cells.size) (h1:u.cells.toList.all (·.oneCell')=true)
   (hown:gU w base e size v n xs) (hc:c+u.cells.toList.length<=xs.length) (hx:ev env x=some (.pointer (some ⟨blk v,ofs v+c,none⟩))) (hy:ev env y=some u) (hn0:0<xs.length)
   (h:∀ w',Bu (blk v) w w'->gU w' base e size v n (sV xs c u.cells.toList)->K undef w'):Stp P env w ⟨d,.store T x y,ty,pos,af,g⟩ K:=fun a N ha=>by
 obtain⟨hl,h2⟩:=hown;rcases h2 with ⟨rfl,hn⟩|⟨gb,o,cap,cur,rfl,hg,hh,hnc,hcm,hcs,htake⟩
 ·rw [hn,Nat.zero_mul]at hl;omega
 ·simp only [blk,ofs]at hx h;have hle:n*size<=cap*size:=Nat.mul_le_mul_right _ hnc;have hfit:o+c+0+u.cells.toList.length<=cur.size:=by omega
  have hst:=fU P gb (o+c) e u.cells.toList 0 cur w hh hfit (fun q hq=>List.all_eq_true.1 h1 q hq)
  simp only [Nat.add_zero]at hst hfit
  cases hi:P.info? T with
  |none=>rw [hi]at hs;cases hs
  |some inf =>
    rw [hi]at hs;simp only [Option.map_some,Option.some.injEq]at hs
    have hrun:(storeVar T ⟨gb,o+c,none⟩ u).run P w=.ok () (w.setRow gb (sV cur.toList (o+c) u.cells.toList).toArray):=by
      simp only [storeVar,Sem.run_bind,sizeOf,typeInfo];simp [hi,hs,hst,sV]
    simp only [execOp,ha.ev hx,ha.ev hy,Instr.storeAt,Instr.sureAddr,Sem.run_bind,Sem.run_pure,Result.andThen_ok,hrun];have hfl:o+c+u.cells.toList.length<=cur.toList.length:=by simpa using hfit
    refine h _ (uG w gb _) ⟨by rw [sU hc,hl],.inr ⟨gb,o,cap,_,rfl,hg,hh.setRow (by have:=sU hfl;simp only [List.size_toArray,this,Array.length_toList]),hnc,hcm,?_,?_⟩⟩
    ·have:=sU hfl;simp only [List.size_toArray,this];simpa using hcs
    ·apply List.ext_getElem?;intro j;rw [AL hc,<- htake,List.getElem?_take,List.getElem?_take,List.getElem?_drop,List.getElem?_drop,List.toList_toArray,AL hfl]
     by_cases hj:j<n*size
     ·rw [if_pos hj,if_pos hj]
      by_cases hin:c<=j/\j<c+u.cells.toList.length
      ·rw [if_pos hin,if_pos au]
       congr 1
       omega
      ·rw [if_neg hin,if_neg au]
     ·rw [if_neg hj,if_neg hj,if_neg au]
end
section
variable {P:Program} {ops:Array Oper} {kd:Nat->Nat} {Kf:Act->World->Prop} {dl:List Deferred} {N f:Nat} {listed:Array Bool} {env:List (Nat×Value)} {wc:World}
theorem EA.three (i j m:Nat) (hr:Region.ready .any ops listed=[i,j,m]) (h1:Closed .any ops (listed.setIfInBounds i true)->EK dl N (qw P ops kd i (AnyX P ops .any kd Kf f (listed.setIfInBounds i true))) env wc)
   (h2:Closed .any ops (listed.setIfInBounds j true)->EK dl N (qw P ops kd j (AnyX P ops .any kd Kf f (listed.setIfInBounds j true))) env wc) (h3:Closed .any ops (listed.setIfInBounds m true)->EK dl N (qw P ops kd m (AnyX P ops .any kd Kf f (listed.setIfInBounds m true))) env wc) :
   EA P ops kd Kf dl N (f+1) listed env wc:=by
 intro hcl a ha;refine oU hr (by simp) fun k hk=>?_
 have hk2:k=i\/k=j\/k=m:=by simpa using hk
 rcases hk2 with rfl|rfl|rfl
 ·exact h1 (hcl.set (by rw [hr];simp)) a ha
 ·exact h2 (hcl.set (by rw [hr];simp)) a ha
 ·exact h3 (hcl.set (by rw [hr];simp)) a ha
end
end Go.XK
namespace Go.SX
open List renaming replicate -> dJ,getElem?_eq_getElem -> bZ,length_append -> dL
open Nat renaming eq_of_beq_eq_true -> dI
open List renaming length -> ln
open Go.XK Go.RowKit
def Out (C:Cx) (K:St->Prop) (a:Act) (w:World):Prop:=∃ σ S ids,Sat C σ ⟨w,S⟩ ids a/\K σ
section
variable {E:En} {C:Cx} {σ:St} {m:Mm} {ids:List Value} {a:Act} {d:Option Tmp} {ty:TypeId} {pos:String} {af:Array Edge} {g:Option (Nat×Bool)} {K:St->Prop}
def I4 (E:En) (C:Cx) (K:St->Prop) (a:Act) (w:World) (o:Oper):Prop:=jJ E.P (fun v w'=>Ext w w'/\Out C K (a.put o.dst v) w') ((execOp a.eval o).run E.P w)
def EO (E:En) (C:Cx) (K:St->Prop) (a:Act) (w:World) (o:Oper):Prop:=jJ E.P (fun v w'=>Out C K (a.put o.dst v) w') ((execOp a.eval o).run E.P w)
theorem I4.b {w:World} {o:Oper} (h:I4 E C K a w o):EO E C K a w o:=iO (fun _ _ h=>h.2) h
theorem zy {w:World} {o:Oper} (h:Stp E.P (dO a) w o (fun v w'=>Ext w w'/\Out C K (a.put o.dst v) w')):I4 E C K a w o:=h a _ (aR a)
theorem qK {w:World} {o:Oper} (h:Stp E.P (dO a) w o (fun v w'=>Out C K (a.put o.dst v) w')):EO E C K a w o:=h a _ (aR a)
theorem Out.new {w':World} (h:Sat C σ m ids a) (he:Ext m.w w') (v:Value) (hb:HB) (hs:jG ⟨w',m.S⟩ (ids++[v]) σ.nb hb) (hf:∀ b,Fp (ids++[v]) σ.nb hb b->m.w.heap.size<=b)
   (hd:o7 d C.N=true) (hfr:fresh σ d=true) {s:SV} (hv:Den ⟨w',m.S⟩ (ids++[v]) s v) (hK:K (eX (j3 σ hb) d s)):Out C K (a.put d v) w' :=
 ⟨_,m.S,ids++[v],(h.newB he v hb hs hf).put hd hfr hv,hK⟩
theorem Out.upd {w':World} {b i:Nat} {hb hb':HB} (h:Sat C σ m ids a) (hi:lk σ.heap i=some hb) (hu:Bu b m.w w') (zU:Fp ids i hb b) (hs:jG ⟨w',m.S⟩ ids i hb') (hf:∀ b',Fp ids i hb' b'->b'=b)
   (hd:o7 d C.N=true) (hfr:fresh σ d=true) {s:SV} {v:Value} (hv:Den ⟨w',m.S⟩ ids s v) (hK:K (eX (setH σ i hb') d s)):Out C K (a.put d v) w' :=
 ⟨_,m.S,ids,(h.updB hi hu zU hs hf).put hd hfr hv,hK⟩
theorem iq (h:Sat C σ m ids a) (v:Value):(ids++[v])[σ.nb]?=some v:=by rw [<- h.len];simp
theorem MN (h:Sat C σ m ids a) (w':World) (b:Nat):Den ⟨w',m.S⟩ (ids++[.pointer (some ⟨b,0,none⟩)]) (.loc σ.nb 0) (.pointer (some ⟨b,0,none⟩)):=by
 rw [Den];exact⟨b,iq h _,rfl⟩
theorem EL (h:Sat C σ m ids a) (w':World) (v:Value) (h1:v.oneCell'=true):Den ⟨w',m.S⟩ (ids++[v]) (.bT σ.nb) v:=by
 rw [Den];exact⟨iq h _,h1⟩
theorem oC (h:Sat C σ m ids a) {v:Value} {hb:HB} {b:Nat} (hf:Fp (ids++[v]) σ.nb hb b):hasB v b:=by
 obtain⟨_,u,h1,h2⟩:=hf;rw [iq h v]at h1;cases h1;exact h2
theorem EM {c:Nat}:∀ {n:Nat} {cs:List SV} {l:Li c} {us:List Value},OX c n cs=some l->aC m ids cs us->∃ bC,us=bC.flatten/\eH (KT c) (eu c) m l bC/\l.length=n
 |0,[],l,us,h,hd=>by
   simp only [OX,Option.some.injEq]at h;subst h;exact⟨[],by rw [hd.nil];rfl,eH.nil,rfl⟩
 |0,_::_,_,_,h,_=>by simp [OX]at h
 |n+1,cs,l,us,h,hd=>by
   simp only [OX,sp_eq]at h;split at h
   ·rename_i x l' h1 h2;cases h;have d1:=Po c h1 (aC.take (KT c) hd);obtain⟨bC,e,h3,h4⟩:=EM h2 (aC.drop (KT c) hd);have hl:(us.take (KT c)).length=KT c:=by rw [d1.len,Iz]
    refine⟨us.take (KT c)::bC,by rw [List.flatten_cons,<- e,List.take_append_drop],⟨by simp [h3.1],fun q hq=>?_,fun i y hy=>?_⟩,by simp [h4]⟩
    ·rcases List.mem_cons.1 hq with rfl|hq
     ·exact hl
     ·exact h3.2.1 q hq
    ·cases i with
     |zero=>simp at hy;subst hy;exact⟨_,rfl,d1⟩
     |succ i=>simp at hy ⊢;exact h3.2.2 i y hy
   ·cases h
theorem rY:∀ {cs:List SV} {us:List Value},lK cs=true->aC m ids cs us->us.all (·.oneCell')=true
 |[],us,_,h=>by rw [h.nil];rfl
 |s::r,us,h,hd=>by
   simp only [lK]at h;split at h
   ·rename_i h1;rw [aC]at hd;obtain⟨u,us',rfl,h2,h3⟩:=hd;simp only [List.all_cons,Bool.and_eq_true];exact⟨one_one h1 h2,rY h h3⟩
   ·cases h
theorem SS (hS:Sat C σ m ids a) (hd:o7 d C.N=true) (hfr:fresh σ d=true) {T:TypeId} {cs:List SV} {us:List Value} (hc:aC m ids cs us) (h:RY E σ d T cs K) {w':World} (he:Ext m.w w') (hr:Row w' m.w.heap.size T us) :
   Out C K (a.put d (.pointer (some ⟨m.w.heap.size,0,none⟩))) w':=by
 have hle:m.le ⟨w',m.S⟩:=Ext.le (S:=m.S) he fun b hb=>(hS.S b hb).1
 unfold RY at h;split at h
 ·rename_i n e k _ _ _ _ hT;split at h
  ·rename_i c hc';split at h
   ·rename_i l hl hk;obtain⟨bC,rfl,h1,h2⟩:=EM hl hc;refine Out.new hS he _ (.vec T n c l) ⟨m.w.heap.size,bC,iq hS _,hr,h1.le hle,h2⟩ (fun b hf=>?_) hd hfr (MN hS w' _) h
    have:=oC hS hf;cases this;exact Nat.le_refl _
   ·cases h
  ·cases h
 ·split at h
  ·refine Out.new hS he _ (.row T cs) ⟨m.w.heap.size,us,iq hS _,hr,aC.app _ _ (aC.le hle _ hc)⟩ (fun b hf=>?_) hd hfr (MN hS w' _) h
   have:=oC hS hf;cases this;exact Nat.le_refl _
  ·cases h
 ·cases h
theorem UN (hS:Sat C σ m ids a) (hd:o7 d C.N=true) (hfr:fresh σ d=true) {T T':TypeId} {k i o:Nat} {cs:List SV} {x y:Operand} {s:SV} {u:Value} (hk:nO E T=some k) (hi:lk σ.heap i=some (.row T' cs))
   (hl:len (cellsOf s)=k) (ho:o+k<=len cs) (h1:lK (cellsOf s)=true) (hx:∃ b,ids[i]?=some (.pointer (some ⟨b,0,none⟩))/\XK.ev (dO a) x=some (.pointer (some ⟨b,o,none⟩))) (hy:XK.ev (dO a) y=some u) (hs:Den m ids s u)
   (hK:K (eX (setH σ i (.row T' (over cs o (cellsOf s)))) d .und)):EO E C K a m.w ⟨d,.store T x y,ty,pos,af,g⟩:=by
 obtain⟨b,hid,hx⟩:=hx;obtain⟨b',vs,h2,h3,h4⟩:=hS.heap.sat i _ hi;rw [hid]at h2;cases h2;obtain⟨z,bb,h5⟩:=gY hk;obtain⟨inf,h6,_,h7,_⟩:=h5.ex;have hc:=lJ h1 hs;have hlen:=hc.length;have hlc:=h4.length;rw [len_eq]at hl ho;refine qK (Stp.XI (T':=T') (old:=vs) (by rw [h6,Option.map_some,h7];congr 1;rw [Array.length_toList]at hlen;omega) hx hy h3 au (rY h1 hc) fun w' hu hr=>?_)
 have ED:¬ m.S b:=hS.heap.vG i _ b hi ⟨rfl,_,hid,rfl⟩;have hle:m.le ⟨w',m.S⟩:=⟨fun k hk=>⟨hk,hu.block k fun e=>ED (e▸hk)⟩,Nat.le_of_eq hu.size.symm⟩
 refine Out.upd (hb':=.row T' (over cs o (cellsOf s))) hS hi hu ⟨rfl,_,hid,rfl⟩ ⟨b,_,hid,hr,aC.le hle _ (qN h4 hc au)⟩ (fun b' hf=>?_) hd hfr (by rw [Den]) hK
 obtain⟨_,v,h8,h9⟩:=hf;rw [hid]at h8;cases h8;cases h9;rfl
end
section
variable {E:En} {C:Cx} {σ:St} {m:Mm} {ids:List Value} {a:Act} {d:Option Tmp} {ty:TypeId} {pos:String} {af:Array Edge} {g:Option (Nat×Bool)} {K:St->Prop}
theorem Sat.repl {w':World} {j:Nat} {hb:HB} (h:Sat C σ m ids a) (hj:lk σ.heap j=some hb) (hm:Mod (fun b=>Fp ids j hb b) m.w w') (v:Value) (hb':HB) (hs:jG ⟨w',m.S⟩ (ids++[v]) σ.nb hb')
   (hf:∀ b,Fp (ids++[v]) σ.nb hb' b->Fp ids j hb b\/m.w.heap.size<=b):Sat C (j3 (setH σ j .gone) hb') ⟨w',m.S⟩ (ids++[v]) a:=by
 have hjn:j<ids.length\/∀ b,¬ Fp ids j hb b:=by
   by_cases hl:j<ids.length
   ·exact .inl hl
   ·exact .inr fun b ⟨_,v,h1,_⟩=>hl (List.getElem?_eq_some_iff.1 h1).1
 have ED:∀ b,Fp ids j hb b->¬ m.S b:=fun b hb0=>h.heap.vG j hb b hj hb0
 have hle:m.le ⟨w',m.S⟩:=⟨fun k hk=>⟨hk,hm.block k (h.S k hk).1 fun e=>ED k e hk⟩,hm.size⟩
 have old:∀ i hb0,lk σ.heap i=some hb0->i≠j->jG ⟨w',m.S⟩ (ids++[v]) i hb0:=fun i hb0 hi hne=>(((h.heap.sat i hb0 hi).le hle fun b hf0=>hm.block b (rW (h.heap.sat i hb0 hi) hf0) fun e=>h.heap.sep i hb0 j hb hi hj hne b hf0 e)).app [v]
 have vK:∀ i hb0 b,lk σ.heap i=some hb0->Fp (ids++[v]) i hb0 b->Fp ids i hb0 b:=fun i hb0 b hi hf0=>Q6 (h.heap.sat i hb0 hi) hf0
 have oldL:∀ i hb0 b,lk σ.heap i=some hb0->Fp ids i hb0 b->b<m.w.heap.size:=fun i hb0 b hi hf0=>rW (h.heap.sat i hb0 hi) hf0
 have nY:∀ i hb0,lk (j3 (setH σ j .gone) hb').heap i=some hb0->(i=σ.nb/\hb0=hb')\/(i=j/\hb0=.gone)\/(i≠j/\lk σ.heap i=some hb0):=by
   intro i hb0 hi;simp only [j3,setH,bG]at hi;split at hi
   ·rename_i e;cases hi;exact .inl ⟨e.symm,rfl⟩
   ·split at hi
    ·rename_i e;cases hi;exact .inr (.inl ⟨e.symm,rfl⟩)
    ·rename_i e;exact .inr (.inr ⟨Ne.symm e,hi⟩)
 have xk:∀ {i b},¬ Fp (ids++[v]) i HB.gone b:=fun⟨h,_⟩=>by cases h
 have GA:∀ i hb0 b,i≠j->lk σ.heap i=some hb0->Fp (ids++[v]) σ.nb hb' b->¬ Fp (ids++[v]) i hb0 b:=fun i hb0 b hne hi f1 f2=>by
   have q:=vK i hb0 b hi f2;rcases hf b f1 with h1|h1
   ·exact h.heap.sep i hb0 j hb hi hj hne b q h1
   ·have:=oldL i hb0 b hi q;omega
 refine⟨⟨by simp [j3,setH,h.len],⟨fun i hb0 hi=>?_,fun i hb0 k hb1 hi hk hne b f1 f2=>?_,fun i hb0 b hi f1 f2=>?_⟩,fun i hb0 b hi f1=>?_,h.S0,fun b hb0=>⟨Nat.lt_of_lt_of_le (h.S b hb0).1 hm.size,(h.S b hb0).2⟩,?_,h.oH.le hle,h.n0,fun i hi=>?_⟩,((h.toSatF.le hle).app [v]).of rfl rfl rfl⟩
 ·rcases nY i hb0 hi with ⟨rfl,rfl⟩|⟨rfl,rfl⟩|⟨hne,hi2⟩
  ·exact hs
  ·trivial
  ·exact old i hb0 hi2 hne
 ·rcases nY i hb0 hi with ⟨rfl,rfl⟩|⟨rfl,rfl⟩|⟨hn1,hi2⟩
  ·rcases nY k hb1 hk with ⟨rfl,rfl⟩|⟨rfl,rfl⟩|⟨hn2,hk2⟩
   ·exact hne rfl
   ·exact xk f2
   ·exact GA k hb1 b hn2 hk2 f1 f2
  ·exact xk f1
  ·rcases nY k hb1 hk with ⟨rfl,rfl⟩|⟨rfl,rfl⟩|⟨hn2,hk2⟩
   ·exact GA i hb0 b hn1 hi2 f2 f1
   ·exact xk f2
   ·exact h.heap.sep i hb0 k hb1 hi2 hk2 hne b (vK i hb0 b hi2 f1) (vK k hb1 b hk2 f2)
 ·rcases nY i hb0 hi with ⟨rfl,rfl⟩|⟨rfl,rfl⟩|⟨hn1,hi2⟩
  ·rcases hf b f1 with h1|h1
   ·exact ED b h1 f2
   ·have:=(h.S b f2).1;omega
  ·exact xk f1
  ·exact h.heap.vG i hb0 b hi2 (vK i hb0 b hi2 f1) f2
 ·rcases nY i hb0 hi with ⟨rfl,rfl⟩|⟨rfl,rfl⟩|⟨hn1,hi2⟩
  ·rcases hf b f1 with h1|h1
   ·exact h.low j hb b hj h1
   ·have:=h.mod.size;exact .inr au
  ·exact absurd f1 xk
  ·exact h.low i hb0 b hi2 (vK i hb0 b hi2 f1)
 ·refine⟨hm.os.trans h.mod.os,hm.tape.trans h.mod.tape,hm.output.trans h.mod.output,Nat.le_trans h.mod.size hm.size,fun k hk hn=>(hm.block k (Nat.lt_of_lt_of_le hk h.mod.size) fun e=>?_).trans (h.mod.block k hk hn)⟩
  rcases h.low j hb k hj e with h1|h1
  ·exact hn h1
  ·omega
 ·have:ids[i]?=C.Ec[i]?:=h.pre i hi;rw [<- this]
  have hlt:i<ids.length:=by
    by_cases hl:i<ids.length
    ·exact hl
    ·rw [List.getElem?_eq_none au]at this
     have:=List.getElem?_eq_none_iff.1 this.symm;have:=h.n0;simp only [j3,setH]at hi;omega
  rw [List.getElem?_append_left hlt]
theorem Lv {i:Nat} {hb hb':HB} {b c:Nat} (h:ids[i]?=some (.pointer (some ⟨b,0,none⟩))) (hf:Fp ids i hb' c):c=b:=by
 obtain⟨_,v,h1,h2⟩:=hf;rw [h]at h1;cases h1;cases h2;rfl
theorem CO (hS:Sat C σ m ids a) {w':World} {b i:Nat} {hb:HB} (hi:lk σ.heap i=some hb) (hf:Fp ids i hb b) (hu:Bu b m.w w'):m.le ⟨w',m.S⟩ :=
 have ED:¬ m.S b:=hS.heap.vG i hb b hi hf
 ⟨fun k hk=>⟨hk,hu.block k fun e=>ED (e▸hk)⟩,Nat.le_of_eq hu.size.symm⟩
theorem xw {K:Nat}:∀ {bC:List (List Value)} {k:Nat} {us vs:List Value} {o:Nat},(∀ us∈bC,us.length=K)->bC[k]?=some us->o+vs.length<=K->(bC.set k (vD us o vs)).flatten=XK.sV bC.flatten (k*K+o) vs
 |[],k,_,_,_,_,h,_=>by simp at h
 |c::r,0,us,vs,o,hk,h,ho=>by
   simp only [List.getElem?_cons_zero,Option.some.injEq]at h;subst h;have hc:=hk c (List.mem_cons_self ..);simp only [List.set_cons_zero,List.flatten_cons,XK.sV,vD,Nat.zero_mul,Nat.zero_add];rw [List.take_append_of_le_length au,List.drop_append_of_le_length au]
   simp
 |c::r,k+1,us,vs,o,hk,h,ho=>by
   have hc:=hk c (List.mem_cons_self ..);have ih:=xw (K:=K) (bC:=r) (k:=k) (us:=us) (vs:=vs) (o:=o) (fun us hu=>hk us (List.mem_cons_of_mem _ hu)) (by simpa using h) ho
   simp only [List.set_cons_succ,List.flatten_cons,ih,XK.sV]
   have e1:(c++r.flatten).take ((k+1)*K+o)=c++r.flatten.take (k*K+o):=by
     rw [List.take_append,List.take_of_length_le (by rw [hc,Nat.add_mul];omega),hc,show(k+1)*K+o-K=k*K+o by rw [Nat.add_mul];omega]
   have e2:(c++r.flatten).drop ((k+1)*K+o+vs.length)=r.flatten.drop (k*K+o+vs.length):=by
     rw [List.drop_append,List.drop_eq_nil_of_le (by rw [hc,Nat.add_mul];omega),hc,List.nil_append,show(k+1)*K+o+vs.length-K=k*K+o+vs.length by rw [Nat.add_mul];omega]
   rw [e1,e2];simp
theorem eH.set {c:Nat} {l:Li c} {bC:List (List Value)} (h:eH (KT c) (eu c) m l bC) {k:Nat} {us:List Value} {y:ah c} (hk:k<l.length) (hy:DL (eu c y) m us):eH (KT c) (eu c) m (l.set k y) (bC.set k us):=by
 refine⟨by simp [h.1],fun q hq=>?_,fun i x hx=>?_⟩
 ·rcases List.mem_or_eq_of_mem_set hq with h1|h1
  ·exact h.2.1 q h1
  ·rw [h1,hy.len,Iz]
 ·rw [List.getElem?_set]at hx ⊢;split at hx
  ·rename_i e;subst e;cases hx;rw [if_pos rfl,if_pos (by rw [h.1];exact hk)]
   exact⟨us,rfl,hy⟩
  ·rename_i e;rw [if_neg e];exact h.2.2 i x hx
theorem P5 (hS:Sat C σ m ids a) (hd:o7 d C.N=true) (hfr:fresh σ d=true) {T T':TypeId} {z:Option Bool} {k i o c:Nat} {n:Int} {l:Li c} {cs:List SV} {x y:Operand} {s:SV} {u:Value} {v:ah c} (hk:nO E T=some k)
   (hi:lk σ.heap i=some (.arr T' z c l)) (hl:len (cellsOf s)=k) (ho:o+k<=KT c) (hk1:1<=k) (h1:lK (cellsOf s)=true) (hcs:ES c (l.getD n.toNat (rE c))=some cs) (hv:DC c (over cs o (cellsOf s))=some v)
   (hx:∃ b q nn cp,ids[i]?=some (.slice (some ⟨b,q,none⟩) nn cp)/\0<=n/\n<nn/\XK.ev (dO a) x=some (.pointer (some ⟨b,q+n.toNat * KT c+o,none⟩))) (hy:XK.ev (dO a) y=some u) (hs:Den m ids s u)
   (hK:K (eX (setH σ i (.arr T' z c (l.set n.toNat v))) d .und)):EO E C K a m.w ⟨d,.store T x y,ty,pos,af,g⟩:=by
 obtain⟨b,q,nn,cp,hid,hn0,hn1,hx⟩:=hx;obtain⟨v',bC,h2,h3,h4,h5,h6⟩:=hS.heap.sat i _ hi;rw [hid]at h2;cases h2;obtain⟨_,_,e,_⟩:=h3.reads.len;injection e with _ enn _
 have hlt:n.toNat<l.length:=by omega
 obtain⟨zz,bb,h7⟩:=gY hk;obtain⟨inf,h8,_,h9,_⟩:=h7.ex;have hc:=lJ h1 hs;have hlen:=hc.length;rw [len_eq]at hl;rw [Array.length_toList]at hlen;have hfl:=h4.flat
 have hle0:n.toNat * KT c+KT c<=l.length*KT c:=by
   have:=Nat.mul_le_mul_right (KT c) hlt;rw [Nat.succ_mul]at this;exact this
 have zU:Fp ids i (.arr T' z c l) b:=⟨rfl,_,hid,rfl⟩;refine qK (Stp.XH (v:=.slice (some ⟨b,q,none⟩) nn cp) (c:=n.toNat * KT c+o) (by rw [h8,Option.map_some,h9];congr 1;omega) (rY h1 hc) h3 (by rw [hfl];simp;omega) (by simp only [blk,ofs];rw [<- Nat.add_assoc];exact hx) hy (by rw [hfl];omega) fun w' hu hr=>?_)
 have hle:=CO hS hi zU hu;obtain⟨us,hus,hdl⟩:=h4.2.2 n.toNat l[n.toNat] (bZ hlt);have hget:l.getD n.toNat (rE c)=l[n.toNat]:=by rw [List.getD_eq_getElem?_getD,bZ hlt];rfl
 rw [hget]at hcs;have hcells:=(nI (ids:=ids) c _ hcs).1 hdl;have hul:us.length=KT c:=by rw [hdl.len,Iz]
 have hnew:=Po c hv (qN hcells hc (by have:=hcells.length;omega))
 refine Out.upd (hb':=.arr T' z c (l.set n.toNat v)) hS hi hu zU ⟨_,bC.set n.toNat (vD us o u.cells.toList),hid,?_,(h4.set hlt hnew).le hle,h5,by rw [List.length_set];exact h6⟩ (fun b' hf=>?_) hd hfr (by rw [Den]) hK
 ·rw [xw h4.2.1 hus (by simp;omega),List.length_set]
  exact hr
 ·obtain⟨_,v',h10,h11⟩:=hf;rw [hid]at h10;cases h10;cases h11;rfl
end
section
variable {E:En} {C:Cx} {σ:St} {m:Mm} {ids:List Value} {a:Act} {d:Option Tmp} {ty:TypeId} {pos:String} {af:Array Edge} {g:Option (Nat×Bool)} {K:St->Prop}
theorem tF (z:Array Value) (n:Nat):(madeCells z (n*z.size)).toList=(dJ n z.toList).flatten:=by
 by_cases h0:z.size=0
 ·have hz:z = #[]:=Array.eq_empty_of_size_eq_zero h0;subst hz;have:(dJ n ([]:List Value)).flatten=[]:=by simp
  simp [madeCells]
 ·have hK:0<z.size:=Nat.pos_of_ne_zero h0;apply List.ext_getElem?;intro i
  by_cases hi:i<n*z.size
  ·have hq:i / z.size<n:=(Nat.div_lt_iff_lt_mul hK).2 hi;have hr:i % z.size<z.size:=Nat.mod_lt _ hK;have e:i / z.size*z.size+i % z.size=i:=by rw [Nat.mul_comm];exact Nat.div_add_mod i z.size
   have hf:=oK (K:=z.size) (dJ n z.toList) (i / z.size) (i % z.size) (fun c hc=>by rw [(List.mem_replicate.1 hc).2];simp) (by simpa using hq) hr
   rw [e]at hf;rw [hf];simp [madeCells,hi,hr]
  ·have hl:((dJ n z.toList).flatten).length=n*z.size:=by simp
   rw [List.getElem?_eq_none (l:=(madeCells z (n*z.size)).toList) (by simp [madeCells];omega),List.getElem?_eq_none (by rw [hl];omega)]
theorem OU {c:Nat} {x:ah c} {us:List Value} (h:DL (eu c x) m us) (n:Nat):eH (KT c) (eu c) m (dJ n x) (dJ n us) :=
 ⟨by simp,fun q hq=>by rw [(List.mem_replicate.1 hq).2,h.len,Iz],fun i y hy=>by
   rw [List.getElem?_replicate]at hy ⊢;split at hy
   ·rename_i hi;cases hy;exact⟨us,by rw [if_pos hi],h⟩
   ·cases hy⟩
theorem LJ {cs:List SV} {us:List Value} (h:aC m ids cs us):∀ n,aC m ids (rep n cs) (dJ n us).flatten
 |0=>by rw [rep];simp;rw [aC]
 |n+1=>by rw [rep,List.replicate_succ,List.flatten_cons];exact h.append (LJ h n)
theorem yZ (E:En) {T:TypeId} {i:Jj} (h:E.TI T=some i):i.z.cells.size=i.size:=(E.hT T i h).zc
theorem yA (hS:Sat C σ m ids a) (hd:o7 d C.N=true) (hfr:fresh σ d=true) {e:TypeId} {z:Option Bool} {c:Nat} {l:Li c} {bC:List (List Value)} {v:Value} {w':World} (he:Ext m.w w') (ho:gU w' 0 e (KT c) v l.length bC.flatten)
   (hn:∀ b,jI v=some b->m.w.heap.size<=b) (hel:eH (KT c) (eu c) m l bC) (hz:AR z v) (hB:l.length*BT c<=140737488355328) (h:K (eX (j3 σ (.arr e z c l)) d (.bT σ.nb))):Out C K (a.put d v) w':=by
 have hle:m.le ⟨w',m.S⟩:=Ext.le (S:=m.S) he fun b hb=>(hS.S b hb).1
 have h1:v.oneCell'=true:=by obtain⟨_,_,rfl,_⟩:=ho.reads.len;rfl
 exact Out.new hS he v (.arr e z c l) ⟨v,bC,iq hS v,ho,hel.le hle,hz,hB⟩ (fun b hf=>hn b (qR h1 (oC hS hf))) hd hfr (EL hS w' v h1) h
theorem NS {w:World} {b n size:Nat} {e:TypeId} {xs:List Value} (h:Row w b e xs) (hl:xs.length=n*size) (hn:n<=140737488355328):gU w 0 e size (.slice (some ⟨b,0,none⟩) n n) n xs :=
 ⟨hl,.inr ⟨b,0,n,_,rfl,Nat.zero_le _,.plain h,Nat.le_refl _,by unfold maxLen;omega,by simp [hl],by rw [List.drop_zero];simp [<- hl]⟩⟩
theorem U7 {e:TypeId} {i:Jj} {e2:TypeId} {c:Nat} {z:ah i.code} (hE:E.TI e=some i) (h:rowC E e i.code=some (e2,c,z)):i.z=.slice none 0 0/\i.size=1/\KT i.code=1/\ES i.code z=some [.aW none c []]:=by
 unfold rowC at h;rw [hE]at h;split at h
 ·rename_i _ _ _ _ he;split at h
  ·split at h
   ·rename_i z' hz hk;cases h;cases he;exact⟨rfl,rfl,dI hk,RW_ok hz⟩
   ·cases h
  ·cases h
 ·cases h
theorem rep_nil (n:Nat) (v:Value):(dJ n [v]).flatten=dJ n v:=by
 induction n with
 |zero=>rfl
 |succ n ih=>rw [List.replicate_succ,List.replicate_succ,List.flatten_cons,ih];rfl
theorem Y9 (hS:Sat C σ m ids a) (hd:o7 d C.N=true) (hfr:fresh σ d=true) {T1 T2 c' c n:Nat} {z:ah c'} {w':World} (he:Ext m.w w') (ho:gU w' 0 T1 1 (.slice (some ⟨m.w.heap.size,0,none⟩) n n) n (dJ n (.slice none 0 0))) (hK:KT c'=1) (hB:n*BT c'<=WS) (hz:ES c' z=some [.aW none c []])
   (h:K (eX (j3 σ (.p8 T1 T2 c' c (dJ n z) none)) d (.wN σ.nb))):Out C K (a.put d (.slice (some ⟨m.w.heap.size,0,none⟩) n n)) w':=by
 have hl:=iq hS (.tuple (.slice (some ⟨m.w.heap.size,0,none⟩) n n::dJ n (.slice none 0 0)).toArray)
 have only:∀ r u b,(Value.slice (some ⟨m.w.heap.size,0,none⟩) n n::dJ n (Value.slice none 0 0))[r]?=some u->jI u=some b->r=0/\b=m.w.heap.size:=fun r u b hr hb=>by
   cases r with
   |zero=>cases hr;cases hb;exact⟨rfl,rfl⟩
   |succ r =>
     rw [List.getElem?_cons_succ,List.getElem?_replicate]at hr;split at hr
     ·cases hr;cases hb
     ·cases hr
 refine⟨_,m.S,_,(hS.newB he (.tuple (.slice (some ⟨m.w.heap.size,0,none⟩) n n::dJ n (.slice none 0 0)).toArray) (.p8 T1 T2 c' c (dJ n z) none) ⟨_,_,dJ n (.slice none 0 0),hl,by rw [List.length_replicate];exact ho,by simp,hK,by rw [List.length_replicate];exact hB,fun r x hr _=>?_,fun _ _ e=>(by cases e),fun r s u u' b hr hs hne hb hb'=>?_⟩ fun b hf=>?_).put hd hfr (s:=.wN σ.nb) ?_,h⟩
 ·rw [List.getElem?_replicate]at hr;split at hr
  ·rename_i hrn;cases hr;have hg:(dJ n (Value.slice none 0 0))[r]?=some (.slice none 0 0):=by rw [List.getElem?_replicate,if_pos hrn]
   exact⟨_,hg,hg,[],[],hz,⟨by simp,.inl ⟨rfl,rfl⟩⟩,eH.nil,by simp⟩
  ·cases hr
 ·have:=only r u b hr hb;have:=only s u' b hs hb';omega
 ·obtain⟨r,u,hr,hb⟩:=(uV hl).1 hf;exact Nat.le_of_eq (only r u b hr hb).2.symm
 ·rw [Den];exact⟨_,hl,rfl⟩
theorem make_ok (hS:Sat C σ m ids a) (hd:o7 d C.N=true) (hfr:fresh σ d=true) {T:TypeId} {x y:Operand} {n k:Int} (hx:XK.ev (dO a) x=some (.int .i64 n)) (hy:XK.ev (dO a) y=some (.int .i64 k)) (h:PL E σ d T n k K) :
   I4 E C K a m.w ⟨d,.makeSlice T x y,ty,pos,af,g⟩:=by
 unfold PL at h;split at h
 ·rename_i e i he;obtain⟨hu,hE,hK,hB⟩:=iW he;split at h
  ·rename_i e2 c z hrow;obtain⟨hz1,hz2,hz3,hz4⟩:=U7 hE hrow;obtain⟨⟨h0,h1,h2⟩,hk⟩:=h;subst h1;obtain⟨inf,q1,q2,q3,q4⟩:=(iN hE).ex;have hn:n=(n.toNat:Int):=by omega
   have hb:n.toNat * BT i.code<=140737488355328:=by
     have:((n.toNat * BT i.code:Nat):Int)<=140737488355328:=by rw [Int.natCast_mul,<- hn];exact h2
     omega
   have hlen:=jC hb;obtain⟨w',hr,ho,hg⟩:=run_make_full (P:=E.P) m.w m.w.heap.size T e inf i.z i.size hu q1 q2 q3 .i64 .i64 n.toNat (by rw [q4,<- hB,Nat.mul_comm];omega) (by unfold maxLen;omega) (Nat.le_refl _)
   have hext:Ext m.w w':=⟨hg.os,hg.tape,hg.output,hg.size,fun k hk=>hg.block k hk (by simp)⟩
   rw [<- hn]at hr;have hsz:=yZ E hE;rw [<- hsz,tF]at ho;have e1:=(aR a).ev hx;have e2:=(aR a).ev hy;have hzc:i.z.cells.toList=[.slice none 0 0]:=by rw [hz1];rfl
   have hout:Out C K (a.put d (.slice (some ⟨m.w.heap.size,0,none⟩) n.toNat n.toNat)) w':=by
     refine Y9 hS hd hfr hext ?_ hz3 hb hz4 hk;have ho':=gU.LW ho;rw [hsz,hz2,hzc,rep_nil]at ho';refine⟨ho'.1,ho'.2.imp id fun⟨g,o,cap,cur,q1,q2,q3⟩=>⟨g,o,cap,cur,q1,Nat.zero_le _,q3⟩⟩
   unfold I4;simp only [execOp,e1,e2,Sem.run_bind,hr,Result.andThen_ok,Sem.run_pure];exact⟨hext,hout⟩
  split at h
  ·rename_i z hz;obtain⟨⟨h0,h1,h2⟩,hk⟩:=h;subst h1;obtain⟨inf,q1,q2,q3,q4⟩:=(iN hE).ex;have hn:n=(n.toNat:Int):=by omega
   have hb:n.toNat * BT i.code<=140737488355328:=by
     have:((n.toNat * BT i.code:Nat):Int)<=140737488355328:=by rw [Int.natCast_mul,<- hn];exact h2
     omega
   have hlen:=jC hb;obtain⟨w',hr,ho,hg⟩:=run_make_full (P:=E.P) m.w m.w.heap.size T e inf i.z i.size hu q1 q2 q3 .i64 .i64 n.toNat (by rw [q4,<- hB,Nat.mul_comm];omega) (by unfold maxLen;omega) (Nat.le_refl _)
   have hext:Ext m.w w':=⟨hg.os,hg.tape,hg.output,hg.size,fun k hk=>hg.block k hk (by simp)⟩
   rw [<- hn]at hr;have hdl:=Po (ids:=[]) (m:=m) i.code hz (oq _);have hsz:=yZ E hE;rw [<- hsz,tF]at ho;have e1:=(aR a).ev hx;have e2:=(aR a).ev hy
   have hout:Out C K (a.put d (.slice (some ⟨m.w.heap.size,0,none⟩) n.toNat n.toNat)) w':=by
     refine yA (z:=some false) hS hd hfr (bC:=dJ n.toNat i.z.cells.toList) hext ?_ (fun b hb=>by cases hb;exact Nat.le_refl _) (OU hdl n.toNat) rfl (by rw [List.length_replicate];exact hb) hk
     have ho':=gU.LW ho;rw [hsz,<- hK]at ho';rw [List.length_replicate];refine⟨ho'.1,ho'.2.imp id fun⟨g,o,cap,cur,q1,q2,q3⟩=>⟨g,o,cap,cur,q1,Nat.zero_le _,q3⟩⟩
   unfold I4;simp only [execOp,e1,e2,Sem.run_bind,hr,Result.andThen_ok,Sem.run_pure];exact⟨hext,hout⟩
  ·cases h
 ·cases h
theorem Wd (hS:Sat C σ m ids a) (hd:o7 d C.N=true) (hfr:fresh σ d=true) {T:TypeId} {n:Nat} {parts:Array (Nat×Operand)} {ps:List (Nat×SV)} {vs:List (Nat×Value)} (hv:XK.kU (dO a) parts.toList=some vs) (hdn:uh m ids ps vs) (h:Fh E σ d T n ps K) :
   I4 E C K a m.w ⟨d,.buildSlice T n parts,ty,pos,af,g⟩:=by
 unfold Fh at h;split at h
 ·rename_i e i he;obtain⟨hu,hE,hK,hB⟩:=iW he;split at h
  ·rw [uh]at hdn;subst hdn
   have hp:parts = #[]:=by
     apply Array.ext'
     cases hq:parts.toList with
     |nil=>rfl
     |cons x r =>
       obtain⟨i',x'⟩:=x;rw [hq]at hv;simp only [XK.kU]at hv;split at hv<;>cases hv
   subst hp;refine zy (Stp.buildNil hu (iN hE) fun w' hext _ hr=>⟨hext,?_⟩)
   refine yA (z:=some false) (l:=([]:List (ah i.code))) (bC:=[]) hS hd hfr hext ?_ (fun b hb=>by cases hb;exact Nat.le_refl _) eH.nil rfl (by simp) h
   exact NS hr (by simp) (by decide)
  ·cases h
  ·rename_i ps n;split at h
   ·rename_i cs hp hb1 hb2;split at h
    ·rename_i l hl;rw [Bool.and_eq_true]at hb1;have hb0:=Nat.le_of_ble_eq_true hb1.2;have hb1:=Nat.le_of_ble_eq_true hb1.1;have hb2:=Nat.le_of_ble_eq_true hb2;have hsz:=yZ E hE;obtain⟨cells,h5,h6⟩:=yt (place:=fun j=>some (j*KT i.code,KT i.code)) (fun _=>rfl) (cells:=madeCells i.z.cells ((n+1)*i.z.cells.size)) hp hdn (by rw [tF];exact LJ (oq _) (n+1))
     obtain⟨bC,e1,h7,h8⟩:=EM hl h6;have hlB:l.length*BT i.code<=140737488355328:=by rw [h8,hB];exact hb2
     have fin:∀ w',Ext m.w w'->Row w' m.w.heap.size e cells.toList->Out C K (a.put d (.slice (some ⟨m.w.heap.size,0,none⟩) (n+1) (n+1))) w':=fun w' hext hr=>by
       rw [e1]at hr;refine yA (z:=some false) hS hd hfr hext ?_ (fun b hb=>by cases hb;exact Nat.le_refl _) h7 rfl hlB h
       have:=NS hr (size:=KT i.code) (n:=l.length) h7.flat (jC hlB);rw [h8]at this ⊢;exact this
     have hmul:1<=(n+1)*i.size:=Nat.le_trans hb0 (Nat.le_mul_of_pos_left _ (Nat.succ_pos n));refine zy (Stp.buildSlice (size:=KT i.code) (cells:=cells.toList) hu (by rw [hK];exact iN hE) ?_ ?_ hv ?_ fun w' hext _ hr=>⟨hext,fin w' hext hr⟩)
     ·rw [hK];exact Nat.ble_eq_true_of_le hb1
     ·rw [hK];exact Nat.ble_eq_true_of_le hmul
     ·rw [<- hsz]at hK;rw [hK,Array.toArray_toList];rw [hK]at h5;exact h5
    ·cases h
   ·cases h
 ·cases h
theorem Vk {w:World} {e:TypeId} {size n hi:Nat} {v:Value} {xs:List Value} (h:gU w 0 e size v n xs) (hh:hi<=n):gU w 0 e size (XK.Nu v hi) hi (xs.take (hi*size)):=by
 have hm:hi*size<=n*size:=Nat.mul_le_mul_right _ hh;refine⟨by rw [List.length_take,h.1];omega,?_⟩
 rcases h.2 with ⟨rfl,hn⟩|⟨g,o,cap,cur,rfl,hg,hh',hnc,hcm,hcs,ht⟩
 ·have:hi=0:=by omega
  subst this;exact .inl ⟨rfl,rfl⟩
 ·refine .inr ⟨g,o,cap,cur,rfl,hg,hh',au,hcm,hcs,?_⟩
  rw [<- ht,List.take_take,Nat.min_eq_left hm]
theorem x9 (hS:Sat C σ m ids a) {s:SV} {u:Value} (hs:Den m ids s u):∃ aO,Sat C (wz σ s).1 m aO a/\Den m aO (wz σ s).2 u/\(wz σ s).1.gen=σ.gen/\(wz σ s).1.kn=σ.kn/\∀ s y,Den m ids s y->Den m aO s y:=by
 unfold wz;split
 ·rename_i j c lo hi;split
  ·rename_i e z c' l hj;split
   ·rename_i l2 hc;obtain⟨ec,hc⟩:=dU hc;subst ec;have hc:l=l2:=hc;subst hc;rw [Den]at hs;obtain⟨ad,n,cp,hid,h0,h1,h2,h3,h4,h5,rfl⟩:=hs;obtain⟨v,bC,q1,q2,q3,q4,q5⟩:=hS.heap.sat j _ hj;rw [hid]at q1;cases q1;obtain⟨bb,cc,e1,_⟩:=q2.reads.len;have hn:n=l.length:=by cases e1;rfl
    subst hn;have hlo:lo.toNat<=hi.toNat:=by omega
    have hhi:hi.toNat<=l.length:=by omega
    have ho:=(Vk q2 hhi).drop hlo;rw [<- Sj]at ho;have hll:((l.drop lo.toNat).take (hi.toNat-lo.toNat)).length=hi.toNat-lo.toNat:=by rw [List.length_take,List.length_drop];omega
    have hfl:((bC.drop lo.toNat).take (hi.toNat-lo.toNat)).flatten=(bC.flatten.take (hi.toNat * KT c')).drop (lo.toNat * KT c'):=by
      rw [tV _ (fun us hu=>q3.2.1 us (List.mem_of_mem_drop hu)),yG _ q3.2.1,List.drop_take,<- Nat.sub_mul]
    have ho1:(uz (KT c') lo.toNat hi.toNat (.slice ad l.length cp)).oneCell'=true:=by unfold uz;rfl
    have hlen:((l.drop lo.toNat).take (hi.toNat-lo.toNat)).length*BT c'<=WS:=Nat.le_trans (Nat.mul_le_mul_right _ (by rw [hll];omega)) q5
    refine⟨ids++[uz (KT c') lo.toNat hi.toNat (.slice ad l.length cp)],hS.repl (w':=m.w) hj ((Ext.refl m.w).mod _) _ (.arr e none c' ((l.drop lo.toNat).take (hi.toNat-lo.toNat))) ⟨_,(bC.drop lo.toNat).take (hi.toNat-lo.toNat),iq hS _,?_,(q3.drop _).take _,trivial,hlen⟩ fun b hf=>.inl ?_,?_,rfl,rfl,fun s y hd=>Den.app _ s hd⟩
    ·rw [hfl,hll];exact ho
    ·have:=qR ho1 (oC hS hf);exact⟨rfl,_,hid,Ul this⟩
    ·rw [Den];exact⟨iq hS _,ho1⟩
   ·exact⟨ids,hS,hs,rfl,rfl,fun _ _ h=>h⟩
  ·exact⟨ids,hS,hs,rfl,rfl,fun _ _ h=>h⟩
 ·exact⟨ids,hS,hs,rfl,rfl,fun _ _ h=>h⟩
theorem Wn (hS:Sat C σ m ids a) (hd:o7 d C.N=true) (hfr:fresh σ d=true) {T:TypeId} {x y:Operand} {s:SV} {u v:Value} (hx:XK.ev (dO a) x=some u) (hy:XK.ev (dO a) y=some v) (hs:Den m ids s u) {f:(c:Nat)->Option (Li c)} (hview:∀ c l2,f c=some l2->∃ zm:List (List Value),Reads m.w (KT c) v l2.length zm.flatten/\eH (KT c) (eu c) m l2 zm)
   (h:vV E σ d T s f K):EO E C K a m.w ⟨d,.call ⟨.builtin .append,#[x,y],#[T,T]⟩,ty,pos,af,g⟩:=by
 unfold vV at h;split at h
 ·rename_i e i he;obtain⟨hu,hE,hK,hB⟩:=iW he;have hsz:=yZ E hE;split at h
  ·rename_i l2 hl2;obtain⟨zm,hr2,sJ⟩:=hview _ _ hl2;have hin:Inf E.P e i.z (KT i.code) i.bytes:=by rw [hK];exact iN hE
   split at h
   ·cases oM hs;obtain⟨⟨hb⟩,hk⟩:=h;have ho:gU m.w 0 e (KT i.code) (.slice none 0 0) 0 []:=⟨by simp,.inl ⟨rfl,rfl⟩⟩
    refine qK (Stp.Ut hu hin (by rw [hsz,hK]) hx hy ho (Nat.zero_le _) hr2 sJ.one (by rw [Nat.zero_add,<- hB];exact hb) (by rw [Nat.zero_add];have:=jC hb;unfold maxLen;omega) fun v' w' h1 h2 h3=>?_)
    rw [Nat.zero_add,List.nil_append]at h1;refine yA (z:=none) hS hd hfr ⟨h2.os,h2.tape,h2.output,h2.size,fun k hk=>h2.block k hk (by simp [Value.ownBlock])⟩ h1 (fun b hb'=>?_) sJ trivial hb hk
    obtain⟨ad,c2,rfl,_⟩:=h1.reads.len
    cases ad with
    |none=>cases hb'
    |some ad =>
                 cases hb';rcases h3 _ rfl with h4|h4
                 ·cases h4
                 ·exact h4
   ·rename_i j;split at h
    ·rename_i e' z c' l' hj;split at h
     ·rename_i l hcast hee;obtain⟨ec,hcast⟩:=dU hcast;subst ec;have hcast:l'=l:=hcast;subst hcast;have hee:=dI hee;subst hee;obtain⟨⟨hb⟩,hk⟩:=h;rw [Den]at hs;obtain⟨v0,bC,q1,q2,q3,q4,q5⟩:=hS.heap.sat j _ hj;rw [hs.1]at q1;cases q1;refine qK (Stp.Ut hu hin (by rw [hsz,hK]) hx hy q2 (Nat.zero_le _) hr2 sJ.one (by rw [<- hB];exact hb) (by have:=jC hb;unfold maxLen;omega) fun v' w' h1 h2 h3=>?_)
      have ho1:v'.oneCell'=true:=by obtain⟨_,_,rfl,_⟩:=h1.reads.len;rfl
      have hown:∀ k,u.ownBlock=some k->Fp ids j (.arr e z i.code l') k:=fun k hk=>by
        refine⟨rfl,u,hs.1,qj ?_⟩;obtain⟨ad,c2,rfl,_⟩:=q2.reads.len
        cases ad with
        |none=>simp [Value.ownBlock]at hk
        |some ad=>simpa [Value.ownBlock,jI] using hk
      have hmod:Mod (fun b=>Fp ids j (.arr e z i.code l') b) m.w w':=Mod.wL h2 fun k hk=>hown k hk
      have ED:∀ b,Fp ids j (.arr e z i.code l') b->¬ m.S b:=fun b hb0=>hS.heap.vG j _ b hj hb0
      have hle:m.le ⟨w',m.S⟩:=⟨fun k hk=>⟨hk,hmod.block k (hS.S k hk).1 fun e=>ED k e hk⟩,hmod.size⟩
      have hel:eH (KT i.code) (eu i.code) m (l'++l2) (bC++zm):=by
        refine⟨by simp [q3.1,sJ.1],fun q hq=>?_,fun i' x' hx'=>?_⟩
        ·rcases List.mem_append.1 hq with hq|hq
         ·exact q3.2.1 q hq
         ·exact sJ.2.1 q hq
        ·by_cases hlt:i'<l'.length
         ·rw [List.getElem?_append_left hlt]at hx';rw [List.getElem?_append_left (by rw [q3.1];exact hlt)]
          exact q3.2.2 i' x' hx'
         ·rw [List.getElem?_append_right au]at hx'
          rw [List.getElem?_append_right (by rw [q3.1];omega),q3.1]
          exact sJ.2.2 _ x' hx'
      refine⟨_,m.S,ids++[v'],(hS.repl hj hmod v' (.arr e none i.code (l'++l2)) ⟨v',bC++zm,by simp [setH,iq hS],?_,hel.le hle,trivial,by rw [dL];exact hb⟩ fun b hf=>?_).put hd hfr ?_,hk⟩
      ·rw [dL,List.flatten_append];exact h1
      ·have hb':=qR ho1 (oC hS hf);obtain⟨ad,c2,rfl,_⟩:=h1.reads.len
       cases ad with
       |none=>cases hb'
       |some ad =>
         cases hb';exact(h3 _ rfl).imp (fun q=>hown _ q) id
      ·rw [Den];exact⟨iq hS v',ho1⟩
     ·cases h
    ·cases h
   ·cases h
  ·cases h
 ·cases h
theorem cpy_elts {c:Nat} {l m2:Li c} {bC kJ:List (List Value)} {lo hi:Nat} (h:eH (KT c) (eu c) m l bC) (h2:eH (KT c) (eu c) m m2 kJ) (h3:lo<=hi) (h4:hi<=l.length) :
   eH (KT c) (eu c) m (vS l lo hi m2) (vS bC lo hi kJ)/\(vS l lo hi m2).length=l.length:=by
 have app:∀ {l1 l2:Li c} {u1 u2:List (List Value)},eH (KT c) (eu c) m l1 u1->eH (KT c) (eu c) m l2 u2->eH (KT c) (eu c) m (l1++l2) (u1++u2):=fun {l1 l2 u1 u2} q1 q2=>by
   refine⟨by simp [q1.1,q2.1],fun q hq=>?_,fun i x hx=>?_⟩
   ·rcases List.mem_append.1 hq with hq|hq
    ·exact q1.2.1 q hq
    ·exact q2.2.1 q hq
   ·by_cases hlt:i<l1.length
    ·rw [List.getElem?_append_left hlt]at hx;rw [List.getElem?_append_left (by rw [q1.1];exact hlt)]
     exact q1.2.2 i x hx
    ·rw [List.getElem?_append_right au]at hx
     rw [List.getElem?_append_right (by rw [q1.1];omega),q1.1]
     exact q2.2.2 _ x hx
 refine⟨?_,by simp [vS];omega⟩
 unfold vS;rw [h2.1];exact app (app (h.take lo) (h2.take _)) (h.drop _)
theorem cpy_flat {bC kJ:List (List Value)} {K lo hi:Nat} (h:∀ us∈bC,us.length=K) (h2:∀ us∈kJ,us.length=K) (h3:lo<=hi) (h4:hi<=bC.length) :
   (vS bC lo hi kJ).flatten=bC.flatten.take (lo*K)++kJ.flatten.take ((hi-lo)*K)++bC.flatten.drop ((lo+min (hi-lo) kJ.length)*K):=by
 unfold vS;rw [List.flatten_append,List.flatten_append,tV _ h,tV _ h2,yG _ h]
theorem dst_ok (hS:Sat C σ m ids a) {c:Nat} {s:SV} {u:Value} {j lo hi:Nat} {e:TypeId} {z:Option Bool} {l:Li c} (h:Ko σ c s=some (j,e,z,l,lo,hi)) (hs:Den m ids s u) :
   lk σ.heap j=some (.arr e z c l)/\lo<=hi/\hi<=l.length/\∃ v,ids[j]?=some v/\(u=v/\lo=0/\hi=l.length\/u=uz (KT c) lo hi v):=by
 unfold Ko at h;split at h
 ·rename_i j';split at h
  ·rename_i e' z' c' l' hj;split at h
   ·rename_i l2 hcast;obtain⟨ec,hcast⟩:=dU hcast;subst ec;have hcast:l'=l2:=hcast;subst hcast;cases h;rw [Den]at hs;exact⟨hj,Nat.zero_le _,Nat.le_refl _,u,hs.1,.inl ⟨rfl,rfl,rfl⟩⟩
   ·cases h
  ·cases h
 ·rename_i j' c0 lo' hi';split at h
  ·rename_i e' z' c' l' hc0 hj;split at h
   ·rename_i l2 hcast;obtain⟨ec,hcast⟩:=dU hcast;subst ec;have hcast:l'=l2:=hcast;subst hcast;cases h;have hc0:=dI hc0;subst hc0;rw [Den]at hs;obtain⟨ad,n,cp,hid,h0,h1,h2,_,_,_,rfl⟩:=hs;obtain⟨v,bC,h3,h4,_⟩:=hS.heap.sat j _ hj;rw [hid]at h3;cases h3;obtain⟨_,_,e1,_⟩:=h4.reads.len;injection e1 with _ e2 _
    exact⟨hj,au,au,_,hid,.inr rfl⟩
   ·cases h
  ·cases h
 ·cases h
end
end Go.SX
namespace Go.XK
open List renaming replicate -> dJ,getElem?_eq_getElem -> bZ,length_append -> dL
open Nat renaming eq_of_beq_eq_true -> dI
open Go.RowKit
section
variable {P:Program} {env:List (Nat×Value)} {d:Option Tmp} {ty:TypeId} {pos:String} {af:Array Edge} {g:Option (Nat×Bool)}
def BSrc (P:Program) (U:TypeId) (v z:Value) (t:ByteArray):Prop:=(P.underlying U=some .string/\v=.string t)\/(P.underlying U=some (.int .i64)/\v=.int .i64 t.size/\0<t.size/\z=.int .u8 0/\∀ b∈t.data.toList,b=0)
theorem Dy {t:ByteArray} (h:∀ b∈t.data.toList,b=0):Builtin.zeroCells (Value.int .u8 0).cells t.size=(byteCells t).toArray:=by
 have hl:t.size=t.data.toList.length:=(Array.length_toList).symm;apply Array.ext';unfold Builtin.zeroCells byteCells;rw [hl];simp only [Array.toList_map,Value.cells];apply List.ext_getElem
 ·simp
 ·intro i h1 h2;have hb:=h (t.data.toList[i]'(by simpa using h2)) (List.getElem_mem _)
  simp only [Array.length_toList,Array.getElem_toList,List.getElem_map]at hb ⊢;simp [hb,Nat.mod_one]
theorem Av {w:World} {t tx ty e:TypeId} {i:TypeInfo} {z v:Value} {str:ByteArray} (hb:BSrc P tx v z str) (ht:P.underlying t=some (.slice e)) (hi:P.info? e=some i) (hz:i.zero=some z) (h1:i.size=1) (h48:str.size*i.bytes<=281474976710656) (hmx:str.size<=9223372036854775807)
   {g o sLen sCap:Nat} {cur:Array Value} (hg:gT w g cur e)
   (hroom:sLen+str.size<=sCap) (hfit:o+sLen+str.size<=cur.size) :
   (Builtin.append_ #[t,tx] ty #[.slice (some ⟨g,o,none⟩) sLen sCap,v]).run P w =
     .ok (.slice (some ⟨g,o,none⟩) (sLen+str.size) sCap) (w.setRow g (cur.toList.take (o+sLen)++byteCells str++cur.toList.drop (o+sLen+str.size)).toArray):=by
 have hl:=byteCells_length str
 have hon:∀ u∈byteCells str,u.oneCell'=true:=fun u hu=>by
   obtain⟨_,_,rfl⟩:=List.mem_map.1 hu;rfl
 have hst:=fU P g (o+sLen) e (byteCells str) 0 cur w hg (by rw [hl];simpa using hfit) hon
 simp only [Nat.add_zero,hl]at hst;rcases hb with ⟨hu,rfl⟩|⟨hu,rfl,h0,rfl,hzs⟩
 ·have hs:=Src.ofString w hu str;simp [Builtin.append_,run_underlying ht,run_underlying hu,sizeOf,typeInfo,hi,h1,hs.len,hroom,hs.cells,Addr.add_lit,hst]
 ·have hw:IntKind.i64.wrap (str.size:Int)=str.size:=by rw [IntKind.wrap_i64];omega
  have hneg:¬ ((str.size:Int)<0):=by omega
  have hns:¬ (str.size=0):=by omega
  have h48i:¬ (281474976710656<(str.size:Int)*(i.bytes:Int)):=by rw [<- Int.natCast_mul];omega
  simp [Builtin.append_,run_underlying ht,run_underlying hu,sizeOf,typeInfo,zeroValue,hi,hz,h1,asInt,asIntOf,hw,hneg,hns,h48i,hroom,Dy hzs,Addr.add_lit,hst]
theorem rO {w:World} {t tx ty e:TypeId} {i:TypeInfo} {z v:Value} {str:ByteArray} (hb:BSrc P tx v z str) (ht:P.underlying t=some (.slice e)) (hi:P.info? e=some i) (hz:i.zero=some z) (h1:i.size=1) (h48:str.size*i.bytes<=281474976710656)
   (base:Option Addr) (sLen sCap:Nat) (olds:List Value) (hold:(Builtin.firstCells i.size sLen (.slice base sLen sCap)).run P w.drew=.ok olds.toArray w.drew)
   (hg:sCap<sLen+str.size) (h63:((sLen+str.size:Nat):Int)<=9223372036854775807) (hfit:Builtin.nextslicecap (sLen+str.size) sCap*i.bytes<=281474976710656) :
   (Builtin.append_ #[t,tx] ty #[.slice base sLen sCap,v]).run P w =
     .ok (.slice (some ⟨w.heap.size,0,none⟩) (sLen+str.size) (grownCap w (sLen+str.size) sCap e))
       (w.drew.alloc (.cells ((olds++byteCells str).toArray++Builtin.zeroCells z.cells (grownCap w (sLen+str.size) sCap e-(sLen+str.size))) e)):=by
 rcases hb with ⟨hu,rfl⟩|⟨hu,rfl,h0,rfl,hzs⟩
 ·exact run_append_grow_src (P:=P) w t tx ty e i z ht hi hz base sLen sCap olds hold (.string str) str.size (byteCells str) (by rw [h1];exact Src.ofString w hu str) hg h63 hfit
 ·rw [Lib.run_append_grow_zeros w t tx ty e i _ .i64 .i64 ht hu hi hz base sLen sCap olds hold str.size h0 au hg h63 h48 hfit,Dy hzs]
  simp
theorem Stp.O7 {w:World} {s x:Operand} {t tx e:TypeId} {z:Value} {bytes base n:Nat} {str:ByteArray} {v vx:Value} {xs:List Value} {K:Value->World->Prop} (ht:P.underlying t=some (.slice e)) (hsrc:BSrc P tx vx z str) (hi:Inf P e z 1 bytes)
   (hz:z.cells.size=1) (hs:ev env s=some v) (hx:ev env x=some vx) (hown:gU w base e 1 v n xs) (hbase:base<=w.heap.size)
   (hb:(n+str.size)*bytes<=140737488355328) (hb0:n+str.size<=maxLen)
   (h:∀ v' w',gU w' base e 1 v' (n+str.size) (xs++byteCells str)->w.grownBy w' v.ownBlock->(∀ k,v'.ownBlock=some k->v.ownBlock=some k\/w.heap.size<=k)->K v' w'):Stp P env w ⟨d,.call ⟨.builtin .append,#[s,x],#[t,tx]⟩,ty,pos,af,g⟩ K:=fun a N ha=>by
 obtain⟨inf,h2,h3,h4,h5⟩:=hi.ex;have hbl:=byteCells_length str;have hlen:(xs++byteCells str).length=(n+str.size)*1:=by rw [dL,hown.1,hbl,Nat.mul_one,Nat.mul_one]
 have grown:∀ (old:Nat),gU (w.drew.alloc (.cells ((xs++byteCells str).toArray++Builtin.zeroCells z.cells (grownCap w (n+str.size) old e-(n+str.size))) e)) base e 1
       (.slice (some ⟨w.heap.size,0,none⟩) (n+str.size) (grownCap w (n+str.size) old e)) (n+str.size) (xs++byteCells str):=by
   intro old;have hge:=grownCap_ge w (n+str.size) old e;have hcm:grownCap w (n+str.size) old e<=maxLen:=grownCap_le_maxLen w (n+str.size) old e hb0;refine⟨hlen,.inr ⟨w.heap.size,0,_,_,rfl,hbase,.plain (heap_alloc_new w.drew _),hge,hcm,?_,?_⟩⟩
   ·have:=hown.1;simp only [Array.size_append,List.size_toArray,size_zeroCells,hz,dL,hbl];omega
   ·simp only [Array.toList_append,List.drop_zero];rw [show(n+str.size)*1=(xs++byteCells str).length from hlen.symm];exact List.take_left
 have hgr:∀ old row,w.grownBy (w.drew.alloc (.cells ((xs++byteCells str).toArray++Builtin.zeroCells z.cells (grownCap w (n+str.size) old e-(n+str.size))) e)) row:=fun old row =>
   Ext.grownBy ((Below.refl _ _).alloc (Nat.le_refl _) _ |>.drew) row
 have hrun:∃ v' w',(Builtin.append_ #[t,tx] ty #[v,vx]).run P w=.ok v' w'/\gU w' base e 1 v' (n+str.size) (xs++byteCells str)/\w.grownBy w' v.ownBlock/\(∀ k,v'.ownBlock=some k->v.ownBlock=some k\/w.heap.size<=k):=by
   subst h5;have h48:str.size*inf.bytes<=281474976710656:=Nat.le_trans (Nat.mul_le_mul_right _ (Nat.le_add_left _ _)) (Nat.le_trans hb (by decide))
   have hsm:n+str.size<=9223372036854775807:=by simp only [maxLen]at hb0;omega
   rcases hown.2 with ⟨rfl,rfl⟩|⟨g0,o,cap,cur,rfl,hbg,hg,hnc,hcm,hcs,htake⟩
   ·have hx:xs=[]:=List.eq_nil_of_length_eq_zero (by simpa using hown.1)
    subst hx
    by_cases hm0:str.size=0
    ·have hb0:byteCells str=[]:=List.eq_nil_of_length_eq_zero (by rw [hbl];exact hm0)
     rw [hm0,hb0];refine⟨.slice none 0 0,w,?_,⟨rfl,.inl ⟨rfl,rfl⟩⟩,⟨rfl,rfl,rfl,Nat.le_refl _,fun _ _ _=>rfl⟩,fun k hk=>by simp [Value.ownBlock]at hk⟩
     rcases hsrc with ⟨hu,rfl⟩|⟨_,_,h0,_⟩
     rotate_left
     ·omega
     have hsr:=Src.ofString w hu str;have hc:=hsr.cells;rw [hm0,hb0]at hc;simp [Builtin.append_,run_underlying ht,run_underlying hu,sizeOf,typeInfo,h2,h4,hsr.len,hm0,hc]
    ·have hr2:=rO (P:=P) (ty:=ty) hsrc ht h2 h3 h4 h48 none 0 0 [] (run_firstCells_none w.drew inf.size 0 0 0) au au (growslice_fits au (by simpa using hb))
     have:=grown 0;have hg2:=hgr 0 (Value.ownBlock (.slice none 0 0));simp only [Nat.zero_add,List.nil_append]at this hg2 hr2 ⊢;exact⟨_,_,hr2,this,hg2,fun k hk=>.inr (by simp [Value.ownBlock]at hk;omega)⟩
   ·simp only [Nat.mul_one]at hcs htake
    by_cases hroom:n+str.size<=cap
    ·have hfit:o+n+str.size<=cur.size:=by omega
     have hr2:=Av (P:=P) (ty:=ty) hsrc ht h2 h3 h4 h48 au hg hroom hfit
     refine⟨_,_,hr2,⟨hlen,.inr ⟨g0,o,cap,_,rfl,hbg,hg.setRow (by simp only [List.size_toArray,dL,List.length_take,List.length_drop,Array.length_toList,hbl];omega),hroom,hcm,?_,?_⟩⟩,⟨rfl,rfl,rfl,by simp,fun k _ hk=>setRow_other w g0 k _ (fun e=>hk (by simp [Value.ownBlock,e]))⟩,fun k hk=>.inl hk⟩
     ·simp only [List.size_toArray,dL,List.length_take,List.length_drop,Array.length_toList,hbl];omega
     ·have hol:o+n<=cur.toList.length:=by rw [Array.length_toList];omega
      have e1:(cur.toList.take (o+n)).drop o=xs:=by
        rw [<- htake,List.drop_take]
        congr 1
        omega
      have hlo:(List.take (o+n) cur.toList).length=o+n:=by rw [List.length_take];omega
      rw [show(n+str.size)*1=(xs++byteCells str).length from hlen.symm];show List.take _ (List.drop o _)=_;rw [List.append_assoc,List.drop_append_of_le_length (by rw [hlo];omega),e1,<- List.append_assoc]
      exact List.take_left
    ·have hrd:=(gU.reads ⟨hown.1,.inr ⟨g0,o,cap,cur,rfl,hbg,hg,hnc,hcm,by simpa using hcs,by simpa using htake⟩⟩:Reads w 1 (.slice (some ⟨g0,o,none⟩) n cap) n xs)
     have hold:(Builtin.firstCells inf.size n (.slice (some ⟨g0,o,none⟩) n cap)).run P w.drew=.ok xs.toArray w.drew:=by
       rw [h4];refine run_firstCells_some w.drew 1 n ⟨g0,o,none⟩ n cap xs (by simpa using hown.1) fun j q hj=>?_
       rcases hrd.2 with ⟨_,hn0⟩|⟨b2,o2,c2,ha',_,_,aag⟩
       ·have hx0:xs=[]:=List.eq_nil_of_length_eq_zero (by rw [hown.1,hn0])
        rw [hx0]at hj;cases hj
       ·cases ha';rw [Addr.add_mid];simpa using aag j q hj
     have hr2:=rO (P:=P) (ty:=ty) hsrc ht h2 h3 h4 h48 (some ⟨g0,o,none⟩) n cap xs hold au au (growslice_fits au hb)
     exact⟨_,_,hr2,grown cap,hgr cap _,fun k hk=>.inr (by simp [Value.ownBlock]at hk;omega)⟩
 obtain⟨v',w',hq,h6,h7,h8⟩:=hrun;simp only [execOp,resolve,invoke,builtin,Sem.run_bind,Sem.run_pure,Result.andThen_ok,List.map_toArray,List.map_cons,List.map_nil,ha.ev hs,ha.ev hx,hq];exact h v' w' h6 h7 h8
end
end Go.XK
namespace Go.SX
open List renaming replicate -> dJ,getElem?_eq_getElem -> bZ,length_append -> dL
open Nat renaming eq_of_beq_eq_true -> dI
open List renaming length -> ln
open Go.XK Go.RowKit
section
variable {E:En} {C:Cx} {σ:St} {m:Mm} {ids:List Value} {a:Act} {d:Option Tmp} {ty:TypeId} {pos:String} {af:Array Edge} {g:Option (Nat×Bool)} {K:St->Prop}
theorem own_put {w:World} {e:TypeId} {size gb o n cap c:Nat} {cur:Array Value} {xs ys:List Value} (hl:xs.length=n*size) (hh:gT w gb cur e) (hnc:n<=cap) (hcm:cap<=maxLen) (hcs:o+cap*size<=cur.size)
   (htake:(cur.toList.drop o).take (n*size)=xs) (hc:c+ys.length<=xs.length) :
   gU (w.setRow gb (cur.toList.take (o+c)++ys++cur.toList.drop (o+c+ys.length)).toArray) 0 e size (.slice (some ⟨gb,o,none⟩) n cap) n (XK.sV xs c ys):=by
 have hle:n*size<=cap*size:=Nat.mul_le_mul_right _ hnc
 have hfl:o+c+ys.length<=cur.toList.length:=by
   have:cur.toList.length=cur.size:=Array.length_toList;have h0:=hl;omega
 have hp:cur.toList.take (o+c)++ys++cur.toList.drop (o+c+ys.length)=XK.sV cur.toList (o+c) ys:=rfl;rw [hp];refine⟨by rw [sU hc,hl],.inr ⟨gb,o,cap,_,rfl,Nat.zero_le _,hh.setRow (by have:=sU hfl;simp only [List.size_toArray,this,Array.length_toList]),hnc,hcm,?_,?_⟩⟩
 ·have:=sU hfl;simp only [List.size_toArray,this];simpa using hcs
 ·apply List.ext_getElem?;intro j;rw [AL hc,<- htake,List.getElem?_take,List.getElem?_take,List.getElem?_drop,List.getElem?_drop,List.toList_toArray,AL hfl]
  by_cases hj:j<n*size
  ·rw [if_pos hj,if_pos hj]
   by_cases hin:c<=j/\j<c+ys.length
   ·rw [if_pos hin,if_pos au]
    congr 1
    omega
   ·rw [if_neg hin,if_neg au]
  ·rw [if_neg hj,if_neg hj,if_neg au]
theorem I7 {P:Program} (w:World) (dT sT ty elem:TypeId) (g o dLen dCap:Nat) (a:Addr) (sLen sCap:Nat) (cur:Array Value) (t:TypeId) (cs:List Value)
   (hu:P.underlying dT=some (.slice elem)) (hs:(P.info? elem).map (·.size)=some 1) (hg:gT w g cur t) (hn:cs.length=Nat.min sLen dLen)
   (hsrc:∀ j v,cs[j]?=some v->w.cell? (a.add j)=some v) (hfit:o+cs.length<=cur.size) (h1:∀ v∈cs,v.oneCell'=true) :
   (Builtin.copy_ #[dT,sT] ty #[.slice (some ⟨g,o,none⟩) dLen dCap,.slice (some a) sLen sCap]).run P w =
     .ok (goInt cs.length) (w.setRow g (cur.toList.take o++cs++cur.toList.drop (o+cs.length)).toArray):=by
 have hl:=run_loadCells_list (P:=P) w a cs hsrc;have hst:=fU P g o t cs 0 cur w hg (by simpa using hfit) h1
 cases hq:P.info? elem with
 |none=>simp [hq]at hs
 |some i =>
   have hi:i.size=1:=by simpa [hq] using hs
   simp [Builtin.copy_,run_underlying hu,Builtin.lenOf,Builtin.firstCells,sizeOf,typeInfo,hq,hi,<- hn,hl,hst]
theorem Cb {P:Program} (w:World) (dT sT ty elem:TypeId) (g o dLen dCap:Nat) (s:ByteArray) (cur:Array Value) (t:TypeId)
   (hu:P.underlying dT=some (.slice elem)) (hs:(P.info? elem).map (·.size)=some 1) (hg:gT w g cur t) (hle:s.size<=dLen) (hfit:o+s.size<=cur.size) :
   (Builtin.copy_ #[dT,sT] ty #[.slice (some ⟨g,o,none⟩) dLen dCap,.string s]).run P w =
     .ok (goInt s.size) (w.setRow g (cur.toList.take o++Lib.byteCells s.data.toList++cur.toList.drop (o+s.size)).toArray):=by
 have hlen:(Lib.byteCells s.data.toList).length=s.size:=by rw [Lib.byteCells_length,<- Lib.size_eq]
 have hst:=fU P g o t (Lib.byteCells s.data.toList) 0 cur w hg (by rw [hlen];simpa using hfit) (Lib.byteCells_one _)
 have hmin:Nat.min s.size dLen=s.size:=Nat.min_eq_left hle
 have htk:List.take s.size (List.map (fun b:UInt8=>Value.int IntKind.u8 (b.toNat:Int)) s.data.toList)=Lib.byteCells s.data.toList:=by
   rw [List.take_of_length_le (by rw [List.length_map,<- Lib.size_eq];exact Nat.le_refl _)]
   rfl
 rw [hlen]at hst;simp only [Nat.add_zero]at hst
 cases hq:P.info? elem with
 |none=>simp [hq]at hs
 |some i =>
   simp [Builtin.copy_,run_underlying hu,Builtin.lenOf,Builtin.firstCells,sizeOf,typeInfo,hq,hmin];rw [htk,hst];simp [Result.andThen]
theorem MK (hS:Sat C σ m ids a) {c:Nat} {s:SV} {u:Value} {j lo hi:Nat} {e:TypeId} {z:Option Bool} {l:Li c} (h:Ko σ c s=some (j,e,z,l,lo,hi)) (hs:Den m ids s u) :
   lk σ.heap j=some (.arr e z c l)/\lo<=hi/\hi<=l.length/\(∃ ad cp,u=.slice ad (hi-lo) cp)/\∃ v bC,ids[j]?=some v/\eH (KT c) (eu c) m l bC/\AR z v/\l.length*BT c<=WS/\gU m.w 0 e (KT c) v l.length bC.flatten /\
     (lo<hi->∃ gb o cap cur cp',v=.slice (some ⟨gb,o,none⟩) l.length cap/\u=.slice (some ⟨gb,o+lo*KT c,none⟩) (hi-lo) cp'/\gT m.w gb cur e/\l.length<=cap/\cap<=maxLen/\o+cap*KT c<=cur.size/\(cur.toList.drop o).take (l.length*KT c)=bC.flatten):=by
 obtain⟨hj,h1,h2,v,hid,hu⟩:=dst_ok hS h hs;obtain⟨v',bC,h3,h4,h5,h6,h7⟩:=hS.heap.sat j _ hj;rw [hid]at h3;cases h3;refine⟨hj,h1,h2,?_,v,bC,hid,h5,h6,h7,h4,fun hlt=>?_⟩
 ·obtain⟨ad,cp,rfl,_⟩:=h4.reads.len;rcases hu with ⟨rfl,rfl,rfl⟩|rfl
  ·exact⟨ad,cp,rfl⟩
  ·exact⟨_,_,rfl⟩
 ·rcases h4.2 with ⟨rfl,hn⟩|⟨gb,o,cap,cur,rfl,_,hh,hnc,hcm,hcs,ht⟩
  ·omega
  ·refine⟨gb,o,cap,cur,?_⟩;rcases hu with ⟨rfl,rfl,rfl⟩|rfl
   ·exact⟨cap,rfl,by simp,hh,hnc,hcm,hcs,ht⟩
   ·refine⟨cap-lo,rfl,?_,hh,hnc,hcm,hcs,ht⟩;have hne:cap≠lo:=by omega
    simp [uz,hne,Addr.add_mid]
theorem Kg {m:Mm} {ids:List Value} {n:Nat} (h:n<=140737488355328):Den m ids (.i (n:Nat)) (goInt n):=nC (by unfold lC;omega)
theorem H8 (hS:Sat C σ m ids a) (hd:o7 d C.N=true) (hfr:fresh σ d=true) {c:Nat} {j lo hi gb o cap n:Nat} {e:TypeId} {z:Option Bool} {l l2:Li c} {bC zm:List (List Value)} {cur:Array Value} {v:Value} (hj:lk σ.heap j=some (.arr e z c l))
   (h1:lo<=hi) (h2:hi<=l.length) (hv:v=.slice (some ⟨gb,o,none⟩) l.length cap) (hid:ids[j]?=some v) (h5:eH (KT c) (eu c) m l bC) (h6:AR z v) (h7:l.length*BT c<=WS) (hh:gT m.w gb cur e) (hnc:l.length<=cap) (hcm:cap<=maxLen)
   (hcs:o+cap*KT c<=cur.size) (ht:(cur.toList.drop o).take (l.length*KT c)=bC.flatten) (he2:eH (KT c) (eu c) m l2 zm) (hn:n=min (hi-lo) l2.length) {cs:List Value} (hcs2:cs=zm.flatten.take (n*KT c))
   (hk:K (eX (setH σ j (.arr e z c (vS l lo hi l2))) d (.i (n:Nat)))) :
   Out C K (a.put d (goInt n)) (m.w.setRow gb (cur.toList.take (o+lo*KT c)++cs++cur.toList.drop (o+lo*KT c+cs.length)).toArray):=by
 subst hv;have zU:Fp ids j (.arr e z c l) gb:=⟨rfl,_,hid,rfl⟩;have hu:=uG m.w gb (cur.toList.take (o+lo*KT c)++cs++cur.toList.drop (o+lo*KT c+cs.length)).toArray;have hle:=CO hS hj zU hu;have hf2:=he2.flat;have hf1:=h5.flat
 have hcl:cs.length=n*KT c:=by
   rw [hcs2,List.length_take,hf2];have:n*KT c<=l2.length*KT c:=Nat.mul_le_mul_right _ au
   omega
 have hfit:lo*KT c+n*KT c<=l.length*KT c:=by rw [<- Nat.add_mul];exact Nat.mul_le_mul_right _ au
 have hown:=own_put (w:=m.w) (ys:=cs) (c:=lo*KT c) (by rw [hf1]) hh hnc hcm hcs ht (by rw [hf1,hcl];exact hfit)
 obtain⟨hce,TM⟩:=cpy_elts h5 he2 h1 h2
 have hflat:(vS bC lo hi zm).flatten=XK.sV bC.flatten (lo*KT c) cs:=by
   rw [cpy_flat h5.2.1 he2.2.1 h1 (by rw [h5.1];exact h2)]
   have e1:zm.flatten.take ((hi-lo)*KT c)=cs:=by
     rw [hcs2,hn]
     by_cases hq:hi-lo<=l2.length
     ·rw [Nat.min_eq_left hq]
     ·rw [Nat.min_eq_right au,List.take_of_length_le (by rw [hf2];exact Nat.mul_le_mul_right _ au),List.take_of_length_le (by rw [hf2];exact Nat.le_refl _)]
   rw [e1,he2.1,<- hn];unfold XK.sV;rw [hcl,Nat.add_mul]
 have hlim:=jC h7;refine Out.upd (hb':=.arr e z c (vS l lo hi l2)) hS hj hu zU ⟨_,vS bC lo hi zm,hid,?_,hce.le hle,h6,by rw [TM];exact h7⟩ (fun b' hf=>?_) hd hfr (Kg au) hk
 ·rw [hflat,TM];exact hown
 ·obtain⟨_,v',h10,h11⟩:=hf;rw [hid]at h10;cases h10;cases h11;rfl
theorem Sat.same {j:Nat} {hb:HB} (h:Sat C σ m ids a) (hj:lk σ.heap j=some hb):Sat C (setH σ j hb) m ids a:=by
 have hl:∀ i,lk (setH σ j hb).heap i=lk σ.heap i:=fun i=>by
   simp only [setH,bG];split
   ·rename_i e;subst e;exact hj.symm
   ·rfl
 exact⟨⟨h.len,⟨fun i hb0 hi=>h.heap.sat i hb0 (by rw [<- hl];exact hi),fun i hb0 k hb1 hi hk=>h.heap.sep i hb0 k hb1 (by rw [<- hl];exact hi) (by rw [<- hl];exact hk),fun i hb0 b hi=>h.heap.vG i hb0 b (by rw [<- hl];exact hi)⟩,fun i hb0 b hi=>h.low i hb0 b (by rw [<- hl];exact hi),h.S0,h.S,h.mod,h.oH,h.n0,h.pre⟩,h.toSatF.of rfl rfl rfl⟩
theorem H9 (hS:Sat C σ m ids a) (hd:o7 d C.N=true) (hfr:fresh σ d=true) {c j lo hi:Nat} {e:TypeId} {z:Option Bool} {l l2:Li c} (hj:lk σ.heap j=some (.arr e z c l)) (h1:lo<=hi) (h0:min (hi-lo) l2.length=0)
   (hk:K (eX (setH σ j (.arr e z c (vS l lo hi l2))) d (.i (min (hi-lo) l2.length:Nat)))):Out C K (a.put d (goInt 0)) m.w:=by
 have e1:vS l lo hi l2=l:=by
   unfold vS;rw [h0,Nat.add_zero]
   have:l2.take (hi-lo)=[]:=by
     apply List.eq_nil_of_length_eq_zero;rw [List.length_take];exact h0
   rw [this,List.append_nil,List.take_append_drop]
 rw [e1]at hk;refine⟨_,m.S,ids,(hS.same hj).put hd hfr ?_,hk⟩;rw [h0];exact Kg au
theorem copy_ok (hS:Sat C σ m ids a) (hd:o7 d C.N=true) (hfr:fresh σ d=true) {T U:TypeId} {x y:Operand} {s t:SV} {u v:Value} (hx:XK.ev (dO a) x=some u) (hy:XK.ev (dO a) y=some v) (hs:Den m ids s u) (ht:Den m ids t v)
   (h:PS E σ d T s (fun c=>Jv σ c t) K):EO E C K a m.w ⟨d,.call ⟨.builtin .copy,#[x,y],#[T,U]⟩,ty,pos,af,g⟩:=by
 have e1:=(aR a).ev hx;have e2:=(aR a).ev hy;unfold PS at h;split at h
 ·rename_i e i he;obtain⟨hu,hE,hK,hB⟩:=iW he;split at h
  ·rename_i l2 j e' z l lo hi hl2 hdst hsz;have hsz:=dI hsz;obtain⟨zm,hr2,sJ⟩:=KX hS hl2 ht;obtain⟨hj,h1,h2,hsh,v0,bC,hid,h5,h6,h7,h8,hrow⟩:=MK hS hdst hs;have hK1:KT i.code=1:=by rw [hK,hsz]
   obtain⟨inf,q1,q2,q3,q4⟩:=(iN hE).ex;have hs1:(E.P.info? e).map (·.size)=some 1:=by rw [q1,Option.map_some,q3,hsz]
   unfold EO
   by_cases h0:min (hi-lo) l2.length=0
   ·obtain⟨ad,cp,rfl⟩:=hsh;obtain⟨ad2,cp2,rfl,_⟩:=hr2.len;have hr:=run_copy_none (P:=E.P) m.w T U ty e ad ad2 (hi-lo) cp l2.length cp2 hu hs1 (by rw [Nat.min_comm]at h0;exact h0)
    have hout:=H9 hS hd hfr hj h1 h0 h;simp only [execOp,resolve,invoke,builtin,Sem.run_bind,Sem.run_pure,Result.andThen_ok,List.map_toArray,List.map_cons,List.map_nil,e1,e2,hr];exact hout
   ·obtain⟨gb,o,cap,cur,cp',rfl,rfl,hh,hnc,hcm,hcs,htk⟩:=hrow au
    obtain⟨b2,o2,c2,rfl,_,_,hat⟩:=hr2.has au
    have hcl:(zm.flatten.take (min (hi-lo) l2.length)).length=Nat.min l2.length (hi-lo):=by
      rw [List.length_take,sJ.flat,hK1,Nat.mul_one];show min _ _=min _ _;omega
    have hr:=I7 (P:=E.P) m.w T U ty e gb (o+lo*KT i.code) (hi-lo) cp' ⟨b2,o2,none⟩ l2.length c2 cur e' (zm.flatten.take (min (hi-lo) l2.length)) hu hs1 hh hcl (fun q w hq=>by
      rw [Addr.add_mid];refine hat q w ?_;rw [List.getElem?_take]at hq;split at hq
      ·exact hq
      ·cases hq) (by
       rw [hcl,hK1,Nat.mul_one];rw [hK1,Nat.mul_one]at hcs;have:Nat.min l2.length (hi-lo)<=hi-lo:=Nat.min_le_right _ _
       omega) (fun w hw=>sJ.one w (List.mem_of_mem_take hw))
    have hout:=H8 hS hd hfr hj h1 h2 rfl hid h5 h6 h7 hh hnc hcm hcs htk sJ rfl (cs:=zm.flatten.take (min (hi-lo) l2.length)) (by rw [hK1,Nat.mul_one]) h
    have e3:Nat.min l2.length (hi-lo)=min (hi-lo) l2.length:=Nat.min_comm _ _;rw [e3]at hcl;rw [hcl]at hr hout;simp only [execOp,resolve,invoke,builtin,Sem.run_bind,Sem.run_pure,Result.andThen_ok,List.map_toArray,List.map_cons,List.map_nil,e1,e2,hr];exact hout
  ·cases h
 ·cases h
theorem UD (z:Array Value) (n:Nat):(Builtin.zeroCells z n).toList=(dJ n z.toList).flatten:=tF z n
theorem FQ {P:Program} (w:World) (T ty e:TypeId) (ad:Option Addr) (cp:Nat) (hu:P.underlying T=some (.slice e)):(Builtin.clear_ #[T] ty #[.slice ad 0 cp]).run P w=.ok (.tuple #[]) w:=by
 cases ad<;>simp [Builtin.clear_,run_underlying hu]
theorem I8 {P:Program} (w:World) (T ty e:TypeId) (z:Value) (g o n cp:Nat) (cur:Array Value) (t:TypeId) (hu:P.underlying T=some (.slice e)) (hv:(zeroValue e).run P w=.ok z w) (hg:gT w g cur t) (hn:n≠0)
   (hfit:o+(dJ n z.cells.toList).flatten.length<=cur.size) (h1:∀ v∈(dJ n z.cells.toList).flatten,v.oneCell'=true) :
   (Builtin.clear_ #[T] ty #[.slice (some ⟨g,o,none⟩) n cp]).run P w=.ok (.tuple #[]) (w.setRow g (cur.toList.take o++(dJ n z.cells.toList).flatten++cur.toList.drop (o+(dJ n z.cells.toList).flatten.length)).toArray):=by
 have hst:=fU P g o t (dJ n z.cells.toList).flatten 0 cur w hg (by simpa using hfit) h1
 rw [Nat.add_zero]at hst
 cases n with
 |zero=>exact absurd rfl hn
 |succ n=>simp only [Builtin.clear_,List.getElem?_toArray,List.getElem?_cons_zero,Sem.run_bind,run_underlying hu,Result.andThen_ok,hv,UD,hst,Sem.run_pure]
theorem clear_ok (hS:Sat C σ m ids a) (hd:o7 d C.N=true) (hfr:fresh σ d=true) {T:TypeId} {x:Operand} {s:SV} {u:Value} (hx:XK.ev (dO a) x=some u) (hs:Den m ids s u)
   (h:K7 E σ d T s K):EO E C K a m.w ⟨d,.call ⟨.builtin .clear,#[x],#[T]⟩,ty,pos,af,g⟩:=by
 have e1:=(aR a).ev hx;unfold K7 at h;split at h
 ·rename_i e i he;obtain⟨hu,hE,hK,hB⟩:=iW he;split at h
  ·rename_i z0 j e' z l lo hi hz0 hdst;obtain⟨inf,q1,q2,q3,q4⟩:=(iN hE).ex;have hsz:=yZ E hE;have hdl:=Po (ids:=[]) (m:=m) i.code hz0 (oq _);have sJ:=OU hdl (hi-lo);obtain⟨hj,h1,h2,hsh,v0,bC,hid,h5,h6,h7,h8,hrow⟩:=MK hS hdst hs;have hv:(zeroValue e).run E.P m.w=.ok i.z m.w:=by simp [zeroValue,typeInfo,q1,q2]
   have hfl:(dJ (hi-lo) i.z.cells.toList).flatten.length=(hi-lo)*KT i.code:=by rw [sJ.flat,List.length_replicate]
   unfold EO
   by_cases h0:hi-lo=0
   ·obtain⟨ad,cp,rfl⟩:=hsh;rw [h0]at e1;have hr:=FQ (P:=E.P) m.w T ty e ad cp hu;have hout:=H9 (d:=none) hS hd hfr hj h1 (l2:=dJ (hi-lo) z0) (by rw [h0];simp) h
    simp only [execOp,resolve,invoke,builtin,Sem.run_bind,Sem.run_pure,Result.andThen_ok,List.map_toArray,List.map_cons,List.map_nil,e1,hr];exact hout
   ·obtain⟨gb,o,cap,cur,cp',rfl,rfl,hh,hnc,hcm,hcs,htk⟩:=hrow au
    have hfit:(hi-lo)*KT i.code<=(cap-lo)*KT i.code:=Nat.mul_le_mul_right _ au
    have hsum:lo*KT i.code+(cap-lo)*KT i.code=cap*KT i.code:=by rw [<- Nat.add_mul];congr 1;omega
    have hr:=I8 (P:=E.P) m.w T ty e i.z gb (o+lo*KT i.code) (hi-lo) cp' cur e' hu hv hh h0 (by rw [hfl];omega) (fun w hw=>sJ.one w hw)
    have hout:=H8 (d:=none) hS hd hfr hj h1 h2 rfl hid h5 h6 h7 hh hnc hcm hcs htk sJ rfl (cs:=(dJ (hi-lo) i.z.cells.toList).flatten) (by
      rw [List.take_of_length_le];rw [hfl,List.length_replicate,Nat.min_self]
      exact Nat.le_refl _) h
    simp only [execOp,resolve,invoke,builtin,Sem.run_bind,Sem.run_pure,Result.andThen_ok,List.map_toArray,List.map_cons,List.map_nil,e1,hr];exact hout
  ·cases h
 ·cases h
theorem ru {m:Mm}:∀ (l:List UInt8),eH (KT 3) (eu 3) m l (l.map fun b=>[Value.int .u8 b.toNat])
 |[]=>eH.nil
 |x::r=>by
   have ih:=ru (m:=m) r;refine⟨List.length_map ..,fun q hq=>?_,fun i y hy=>?_⟩
   ·rcases List.mem_cons.1 hq with rfl|hq
    ·rfl
    ·exact ih.2.1 q hq
   ·cases i with
    |zero=>cases hy;exact⟨_,rfl,.int .u8 x.toNat,[],rfl,rfl,rfl⟩
    |succ i=>exact ih.2.2 i y hy
theorem qZ:∀ (l:List UInt8),(l.map fun b=>[Value.int .u8 b.toNat]).flatten=Lib.byteCells l
 |[]=>rfl
 |x::r=>by rw [List.map_cons,List.flatten_cons,qZ r];rfl
theorem copyS_ok (hS:Sat C σ m ids a) (hd:o7 d C.N=true) (hfr:fresh σ d=true) {T U:TypeId} {x y:Operand} {s:SV} {t:ByteArray} {u v:Value} (hx:XK.ev (dO a) x=some u) (hy:XK.ev (dO a) y=some v) (hs:Den m ids s u) (ht:Den m ids (.str t) v)
   (h:K6 E σ d T s t K):EO E C K a m.w ⟨d,.call ⟨.builtin .copy,#[x,y],#[T,U]⟩,ty,pos,af,g⟩:=by
 have e1:=(aR a).ev hx;have e2:=(aR a).ev hy;rw [Den]at ht;obtain⟨rfl,hts⟩:=ht;unfold K6 at h;split at h
 ·rename_i e i he;obtain⟨hu,hE,hK,hB⟩:=iW he;split at h
  ·rename_i ksz kbt kz keq j e' z l lo hi hTe hdst;rw [hE]at hTe;cases hTe;obtain⟨⟨hle⟩,hk⟩:=h;obtain⟨hj,h1,h2,hsh,v0,bC,hid,h5,h6,h7,h8,hrow⟩:=MK hS hdst hs;obtain⟨inf,q1,q2,q3,q4⟩:=(iN hE).ex;have hK1:KT 3=1:=rfl;have hK':KT 3=ksz:=hK;have hs1:(E.P.info? e).map (·.size)=some 1:=by rw [q1,Option.map_some,q3];exact congrArg some hK'.symm
   have htl:@ln (ah 3) t.data.toList=t.size:=(Lib.size_eq t).symm
   have hmin:min (hi-lo) (@ln (ah 3) t.data.toList)=t.size:=by
     rw [htl];exact Nat.min_eq_right hle
   unfold EO
   by_cases h0:t.size=0
   ·obtain⟨ad,cp,rfl⟩:=hsh;have hr:=Lib.run_copy_empty_string (P:=E.P) m.w T U ty e ad (hi-lo) cp t hu (by rw [q1];rfl) h0
    have hout:=H9 (l2:=t.data.toList) (c:=3) hS hd hfr hj h1 (by rw [hmin];exact h0) (K:=K) (by rw [hmin];exact hk)
    simp only [execOp,resolve,invoke,builtin,Sem.run_bind,Sem.run_pure,Result.andThen_ok,List.map_toArray,List.map_cons,List.map_nil,e1,e2,hr];exact hout
   ·obtain⟨gb,o,cap,cur,cp',rfl,rfl,hh,hnc,hcm,hcs,htk⟩:=hrow (Nat.lt_of_sub_pos (Nat.lt_of_lt_of_le (Nat.pos_of_ne_zero h0) hle))
    have hr:=Cb (P:=E.P) m.w T U ty e gb (o+lo*KT 3) (hi-lo) cp' t cur e' hu hs1 hh hle (by
        rw [hK1,Nat.mul_one];rw [hK1,Nat.mul_one]at hcs;clear hK' hB hts h7 hmin htl
        omega)
    have sJ:=ru (m:=m) t.data.toList;have hbl:(Lib.byteCells t.data.toList).length=t.size:=by rw [Lib.byteCells_length,<- Lib.size_eq]
    have hout:=H8 (c:=3) (l2:=t.data.toList) (n:=t.size) hS hd hfr hj h1 h2 rfl hid h5 h6 h7 hh hnc hcm hcs htk sJ hmin.symm (cs:=Lib.byteCells t.data.toList) (by rw [qZ,hK1,Nat.mul_one,List.take_of_length_le (Nat.le_of_eq hbl)]) hk
    simp only [execOp,resolve,invoke,builtin,Sem.run_bind,Sem.run_pure,Result.andThen_ok,List.map_toArray,List.map_cons,List.map_nil,e1,e2,hr];rw [hbl]at hout;exact hout
  ·cases h
 ·cases h
theorem Ir (hS:Sat C σ m ids a) (hd:o7 d C.N=true) (hfr:fresh σ d=true) {T U:TypeId} {x y:Operand} {s:SV} {t:ByteArray} {u v:Value} (hx:XK.ev (dO a) x=some u) (hy:XK.ev (dO a) y=some v) (hs:Den m ids s u) (hU:∀ e i,pV E T=some (e,i)->BSrc E.P U v i.z t)
   (h:xV E σ d T s t K):EO E C K a m.w ⟨d,.call ⟨.builtin .append,#[x,y],#[T,U]⟩,ty,pos,af,g⟩:=by
 unfold xV at h;split at h
 ·rename_i e0 i0 he0;split at h
  ·rename_i ksz kbt kz keq hTe;unfold vV at h;split at h
   ·rename_i e i he;obtain⟨hu,hE,hK,hB⟩:=iW he;rw [he0]at he;cases he;rw [hE]at hTe;cases hTe;have hsz:=yZ E hE;have hK1:KT 3=1:=rfl;have hK':KT 3=ksz:=hK;split at h
    ·rename_i l2 hl2;obtain⟨ec,hl2⟩:=dU hl2;have hl2:t.data.toList=l2:=hl2;subst hl2;obtain⟨tl,htl⟩:∃ tl:Li 3,tl=t.data.toList:=⟨_,rfl⟩;obtain⟨tu,sJ,hfl⟩:∃ tu:List (List Value),eH (KT 3) (eu 3) m tl tu/\tu.flatten=Go.byteCells t:=⟨_,by rw [htl];exact ru (m:=m) t.data.toList,qZ _⟩
     have hll:List.length tl=t.size:=by rw [htl];exact(Lib.size_eq t).symm
     rw [<- htl]at h;have hin:=iN hE;rw [<- hK',hK1]at hin;split at h
     ·cases oM hs;obtain⟨⟨hb⟩,hk⟩:=h;have ho:gU m.w 0 e0 1 (.slice none 0 0) 0 []:=⟨by simp,.inl ⟨rfl,rfl⟩⟩
      refine qK (Stp.O7 hu (hU _ _ he0) hin (by rw [hsz,<- hK',hK1]) hx hy ho (Nat.zero_le _) (by rw [Nat.zero_add,<- hB,<- hll];exact hb) (by rw [Nat.zero_add,<- hll];have:=jC hb;unfold maxLen;omega) fun v' w' h1 h2 h3=>?_)
      rw [Nat.zero_add,List.nil_append,<- hfl,<- hll]at h1;refine yA (c:=3) (z:=none) hS hd hfr ⟨h2.os,h2.tape,h2.output,h2.size,fun k hk=>h2.block k hk (by simp [Value.ownBlock])⟩ h1 (fun b hb'=>?_) sJ trivial hb hk
      obtain⟨ad,c2,rfl,_⟩:=h1.reads.len
      cases ad with
      |none=>cases hb'
      |some ad =>
                   cases hb';rcases h3 _ rfl with h4|h4
                   ·cases h4
                   ·exact h4
     ·rename_i j;split at h
      ·rename_i e' z c' l' hj;split at h
       ·rename_i l hcast hee;obtain⟨ec,hcast⟩:=dU hcast;have ec3:c'=3:=ec;subst ec3;have hcast:l'=l:=hcast;subst hcast;have hee:=dI hee;subst hee;obtain⟨⟨hb⟩,hk⟩:=h;rw [Den]at hs;obtain⟨v0,bC,q1,q2,q3,q4,q5⟩:=hS.heap.sat j _ hj;rw [hs.1]at q1;cases q1;rw [hK1]at q2;refine qK (Stp.O7 hu (hU _ _ he0) hin (by rw [hsz,<- hK',hK1]) hx hy q2 (Nat.zero_le _) (by rw [<- hB,<- hll];exact hb) (by rw [<- hll];have:=jC hb;unfold maxLen;omega) fun v' w' h1 h2 h3=>?_)
        have ho1:v'.oneCell'=true:=by obtain⟨_,_,rfl,_⟩:=h1.reads.len;rfl
        have hown:∀ k,u.ownBlock=some k->Fp ids j (.arr e0 z 3 l') k:=fun k hk=>by
          refine⟨rfl,u,hs.1,qj ?_⟩;obtain⟨ad,c2,rfl,_⟩:=q2.reads.len
          cases ad with
          |none=>simp [Value.ownBlock]at hk
          |some ad=>simpa [Value.ownBlock,jI] using hk
        have hmod:Mod (fun b=>Fp ids j (.arr e0 z 3 l') b) m.w w':=Mod.wL h2 fun k hk=>hown k hk
        have ED:∀ b,Fp ids j (.arr e0 z 3 l') b->¬ m.S b:=fun b hb0=>hS.heap.vG j _ b hj hb0
        have hle:m.le ⟨w',m.S⟩:=⟨fun k hk=>⟨hk,hmod.block k (hS.S k hk).1 fun e=>ED k e hk⟩,hmod.size⟩
        have hel:eH (KT 3) (eu 3) m (l'++tl) (bC++tu):=by
          refine⟨by simp [q3.1,sJ.1],fun q hq=>?_,fun i' x' hx'=>?_⟩
          ·rcases List.mem_append.1 hq with hq|hq
           ·exact q3.2.1 q hq
           ·exact sJ.2.1 q hq
          ·by_cases hlt:i'<l'.length
           ·rw [List.getElem?_append_left hlt]at hx';rw [List.getElem?_append_left (by rw [q3.1];exact hlt)]
            exact q3.2.2 i' x' hx'
           ·rw [List.getElem?_append_right au]at hx'
            rw [List.getElem?_append_right (by rw [q3.1];omega),q3.1]
            exact sJ.2.2 _ x' hx'
        refine⟨_,m.S,ids++[v'],(hS.repl hj hmod v' (.arr e0 none 3 (l'++tl)) ⟨v',bC++tu,by simp [setH,iq hS],?_,hel.le hle,trivial,by rw [dL];exact hb⟩ fun b hf=>?_).put hd hfr ?_,hk⟩
        ·rw [dL,List.flatten_append,hfl,hll];exact h1
        ·have hb':=qR ho1 (oC hS hf);obtain⟨ad,c2,rfl,_⟩:=h1.reads.len
         cases ad with
         |none=>cases hb'
         |some ad =>
           cases hb';exact(h3 _ rfl).imp (fun q=>hown _ q) id
        ·rw [Den];exact⟨iq hS v',ho1⟩
       ·cases h
      ·cases h
     ·cases h
    ·cases h
   ·cases h
  ·cases h
 ·cases h
theorem N8 {kc vc:Nat} (x:ah kc) (y:ah vc):∀ (l:List (ah kc×ah vc)),GN (l.map fun p=>(p.1,TV vc p.2)) x (TV vc y)=(fV l x y).map fun p=>(p.1,TV vc p.2)
 |[]=>rfl
 |(k,u)::r=>by
   rw [List.map_cons,fV];unfold GN;rw [N8 x y r]
   by_cases h:x=k
   ·rw [if_pos h,if_pos (by simpa using h)];rfl
   ·rw [if_neg h,if_neg (by simpa using h)];rfl
theorem JN {kc vc:Nat} {x:ah kc} {y:ah vc}:∀ {l:List (ah kc×ah vc)} {p:ah kc×ah vc},p∈fV l x y->p=(x,y)\/p∈l
 |[],p,h=>.inl (by simpa [fV] using h)
 |(k,u)::r,p,h=>by
   rw [fV]at h;split at h
   ·rcases List.mem_cons.1 h with h|h
    ·exact .inl h
    ·exact .inr (List.mem_cons_of_mem _ h)
   ·rcases List.mem_cons.1 h with h|h
    ·exact .inr (by rw [h];exact List.mem_cons_self ..)
    ·exact(JN h).imp id (List.mem_cons_of_mem _)
theorem map_ok (hS:Sat C σ m ids a) (hd:o7 d C.N=true) (hfr:fresh σ d=true) {T:TypeId} (h:Xa E σ d T K):I4 E C K a m.w ⟨d,.makeMap T none,ty,pos,af,g⟩:=by
 unfold Xa at h;split at h
 ·split at h
  ·rename_i kc vc _ _;split at h
   ·refine zy (Stp.makeMap (TV kc) fun w' hext hsz hr=>⟨hext,?_⟩)
    refine Out.new hS hext _ (.mp kc vc []) ⟨m.w.heap.size,iq hS _,hr,fun p hp=>by cases hp⟩ (fun b hf=>?_) hd hfr (EL hS w' _ rfl) h
    have:=oC hS hf;cases this;exact Nat.le_refl _
   ·cases h
  ·cases h
 ·cases h
theorem Ym (hS:Sat C σ m ids a) (hd:o7 d C.N=true) (hfr:fresh σ d=true) {T:TypeId} {x y z:Operand} {s k t:SV} {u v q:Value} (hx:XK.ev (dO a) x=some u) (hy:XK.ev (dO a) y=some v) (hz:XK.ev (dO a) z=some q)
   (hs:Den m ids s u) (hk:Den m ids k v) (ht:Den m ids t q) (h:RU E σ d T s k t K):EO E C K a m.w ⟨d,.mapUpdate T x y z,ty,pos,af,g⟩/\EO E C K a m.w ⟨d,.insert T x y z,ty,pos,af,g⟩:=by
 unfold RU at h;split at h
 ·rename_i kt vt _ _ _ _ _ i hT;have hu:E.P.underlying T=some (.map kt vt):=fK hT;split at h
  ·rename_i kc vc l hl;split at h
   ·rename_i x0 y0 hKO hgk hq hy0 hgv;have hkey:=E.hK _ _ hKO;rw [Den]at hs;obtain⟨b,h1,h2,h3⟩:=hS.heap.sat i _ hl;rw [hs.1]at h1;cases h1;obtain⟨hv,_⟩:=GV kc hgk hq hk;subst hv;obtain⟨hw,hdl⟩:=GV vc hgv hy0 ht;subst hw;have zU:Fp ids i (.mp kc vc l) b:=⟨rfl,_,hs.1,rfl⟩
    have fin:∀ w',Bu b m.w w'->sM w' b (TV kc) (GN (l.map fun p=>(p.1,TV vc p.2)) x0 (TV vc y0))->Out C K (a.put d undef) w':=fun w' hup hr=>by
      have hle:=CO hS hl zU hup;rw [N8]at hr;refine Out.upd (hb':=.mp kc vc (fV l x0 y0)) hS hl hup zU ⟨b,hs.1,hr,fun p hp=>?_⟩ (fun b' hf=>?_) hd hfr (by rw [Den]) h
      ·rcases JN hp with rfl|hp
       ·exact hdl.le hle
       ·exact(h3 p hp).le hle
      ·obtain⟨_,v',h10,h11⟩:=hf;rw [hs.1]at h10;cases h10;cases h11;rfl
    exact⟨qK (Stp.mapUpdate hu hkey hx hy hz h2 fin),qK (Stp.insert hu hkey hx hy hz h2 fin)⟩
   ·cases h
  ·cases h
 ·cases h
theorem Bn {m:Mm} {ids:List Value} {z:Option Bool} {c:Nat} {l:Li c} {y:Value}:Den m ids (.aW z c l) y↔LD (KT c) (BT c) (eu c) z l m y:=by rw [Den]
theorem Sat.addS {b:Nat} (h:Sat C σ m ids a) (hb:b<m.w.heap.size) (h0:C.w0.heap.size<=b) (hn:∀ i hb,lk σ.heap i=some hb->¬ Fp ids i hb b):Sat C σ ⟨m.w,fun k=>m.S k\/k=b⟩ ids a:=by
 have hle:m.le ⟨m.w,fun k=>m.S k\/k=b⟩:=⟨fun k hk=>⟨.inl hk,rfl⟩,Nat.le_refl _⟩
 refine⟨⟨h.len,⟨fun i hb0 hi=>(h.heap.sat i hb0 hi).le hle fun _ _=>rfl,h.heap.sep,fun i hb0 c hi f1 f2=>?_⟩,h.low,fun c hc=>.inl (h.S0 c hc),fun c hc=>?_,h.mod,h.oH.le hle,h.n0,h.pre⟩,h.toSatF.le hle⟩
 ·rcases f2 with f2|rfl
  ·exact h.heap.vG i hb0 c hi f1 f2
  ·exact hn i hb0 hi f1
 ·rcases hc with hc|rfl
  ·exact h.S c hc
  ·exact⟨hb,.inr (.inr h0)⟩
theorem Sat.addS2 {b:Nat} (h:Sat C σ m ids a) (hb:b<m.w.heap.size) (h0:C.T0 b\/C.w0.heap.size<=b) (hn:∀ i hb,lk σ.heap i=some hb->¬ Fp ids i hb b):Sat C σ ⟨m.w,fun k=>m.S k\/k=b⟩ ids a:=by
 have hle:m.le ⟨m.w,fun k=>m.S k\/k=b⟩:=⟨fun k hk=>⟨.inl hk,rfl⟩,Nat.le_refl _⟩
 refine⟨⟨h.len,⟨fun i hb0 hi=>(h.heap.sat i hb0 hi).le hle fun _ _=>rfl,h.heap.sep,fun i hb0 c hi f1 f2=>?_⟩,h.low,fun c hc=>.inl (h.S0 c hc),fun c hc=>?_,h.mod,h.oH.le hle,h.n0,h.pre⟩,h.toSatF.le hle⟩
 ·rcases f2 with f2|rfl
  ·exact h.heap.vG i hb0 c hi f1 f2
  ·exact hn i hb0 hi f1
 ·rcases hc with hc|rfl
  ·exact h.S c hc
  ·exact⟨hb,.inr h0⟩
theorem Wh (hS:Sat C σ m ids a) (hd:o7 d C.N=true) (hfr:fresh σ d=true) {T:TypeId} {n:Nat} {parts:Array (Nat×Operand)} {ps:List (Nat×SV)} {vs:List (Nat×Value)} (hv:XK.kU (dO a) parts.toList=some vs) (hdn:uh m ids ps vs) (h:Fj E σ d T n ps K) :
   I4 E C K a m.w ⟨d,.buildSlice T n parts,ty,pos,af,g⟩:=by
 unfold Fj at h;split at h
 ·rename_i e _ _ _ _ _ hT;have hu:E.P.underlying T=some (.slice e):=fK hT;split at h
  ·rename_i i hE;split at h
   ·rename_i cs hp h1 hb;have h1:=dI h1;rw [Bool.and_eq_true]at hb;have hb1:=Nat.le_of_ble_eq_true hb.1;have hb2:=Nat.le_of_ble_eq_true hb.2;have hsz:=yZ E hE;obtain⟨cells,h5,h6⟩:=yt (place:=fun j=>some (j*1,1)) (fun _=>rfl) (cells:=madeCells i.z.cells (n*i.z.cells.size)) hp hdn (by rw [tF];exact LJ (oq _) n)
    split at h
    rotate_left
    ·cases h
    rename_i hln;have hlc:cells.toList.length=n:=by rw [h6.length,<- len_eq];exact dI hln
    refine zy (Stp.buildSlice (size:=1) (cells:=cells.toList) hu (by rw [<- h1];exact iN hE) ?_ ?_ hv ?_ fun w' hext hw hr=>⟨hext,?_⟩)
    ·rw [Nat.mul_one];exact Nat.ble_eq_true_of_le au
    ·rw [Nat.mul_one];exact Nat.ble_eq_true_of_le hb1
    ·rw [hsz,h1]at h5;rw [Array.toArray_toList];exact h5
    ·have h0:=hS.mod.size
     have hS':=(hS.ext hext).addS (b:=m.w.heap.size) (by show _<w'.heap.size;omega) h0 fun i hb hi hf=>by
       have:=rW (hS.heap.sat i hb hi) hf;omega
     refine⟨_,_,ids,hS'.put (s:=.yN cs) hd hfr ?_,h⟩;rw [Den];refine⟨m.w.heap.size,0,cells.toList,by rw [hlc],au,.inr rfl,hr.at,?_⟩
     exact aC.le (m':=⟨w',fun k=>m.S k\/k=m.w.heap.size⟩) ⟨fun b hb=>⟨.inl hb,hext.block b (hS.S b hb).1⟩,hext.size⟩ cs h6
   ·cases h
  ·cases h
 ·cases h
theorem HV (w:World) (b k:Nat):Bu b w (w.freeze ⟨b,k,none⟩ 1):=by
 unfold World.freeze;rw [if_neg (by decide)]
 refine⟨rfl,rfl,rfl,by simp,fun j hj=>?_⟩
 simp only;rw [Array.getElem?_modify,if_neg (fun e=>hj e.symm)]
theorem OL (w:World) (b k:Nat) (c:Addr):(w.freeze ⟨b,k,none⟩ 1).cell? c=w.cell? c:=by
 by_cases hc:c.block=b
 ·unfold World.freeze;rw [if_neg (by decide)]
  simp only [World.cell?];rw [Array.getElem?_modify,if_pos hc.symm]
  cases w.heap[c.block]? with
  |none=>rfl
  |some o=>cases o<;>rfl
 ·exact World.cell?_of_block ((HV w b k).block c.block hc)
theorem mark_ok (hS:Sat C σ m ids a) (hd:o7 d C.N=true) (hfr:fresh σ d=true) {S T:TypeId} {x:Operand} {s:SV} {u:Value} (hx:XK.ev (dO a) x=some u) (hs:Den m ids s u) (h:PK E σ d S T s K) :
   EO E C K a m.w ⟨d,.convert S T x,ty,pos,af,g⟩:=by
 have e1:=(aR a).ev hx;unfold PK at h;split at h
 ·rename_i e _ _ _ _ _ j hST hT;have hST:=dI hST;subst hST;have hu:E.P.underlying S=some (.slice e):=fK hT;split at h
  ·rename_i e' z y l hTe hj;have hue:E.P.underlying e=some (.int .u8):=fK hTe;split at h
   ·rename_i he;have he:=dI he;subst he;rw [Den]at hs;obtain⟨v,bC,h1,h2,h3,h4,h5⟩:=hS.heap.sat j _ hj;rw [hs.1]at h1;cases h1;rcases h2.2 with ⟨_,hn⟩|⟨gb,o,cap,cur,rfl,_,hh,hnc,hcm,hcs,htake⟩
    ·simp at hn
    ·have hup:=HV m.w gb cur.size
     have hr:(convert S S (.slice (some ⟨gb,o,none⟩) (y::l).length cap)).run E.P m.w=.ok (.slice (some ⟨gb,o,none⟩) (y::l).length cap) (m.w.freeze ⟨gb,cur.size,none⟩ 1):=by
       have hsh:m.w.shape? gb=some (e,cur.size):=by obtain⟨fr,hh,_⟩:=hh.ex;simp [World.shape?,hh]
       simp [convert,run_underlying hu,run_underlying hue,markStringish,hsh]
     have zU:Fp ids j (.arr e z 3 (y::l)) gb:=⟨rfl,_,hs.1,rfl⟩;have hS1:=hS.updB (hb':=.gone) hj hup zU trivial (fun b' hf=>by cases hf.1)
     have hlow:=hS.low j _ gb hj zU
     have hS2:=hS1.addS2 (b:=gb) (by show gb<(m.w.freeze _ 1).heap.size;rw [hup.size];exact hh.lt) hlow fun i hb hi hf=>by
       simp only [setH,bG]at hi;split at hi
       ·cases hi;cases hf.1
       ·rename_i hne;exact hS.heap.sep i hb j _ hi hj (Ne.symm hne) gb hf zU
     have hle:m.le ⟨m.w.freeze ⟨gb,cur.size,none⟩ 1,fun k=>m.S k\/k=gb⟩:=⟨fun k hk=>⟨.inl hk,hup.block k fun e=>hS.heap.vG j _ gb hj zU (e▸hk)⟩,Nat.le_of_eq hup.size.symm⟩
     unfold EO;simp only [execOp,e1,Sem.run_bind,hr,Result.andThen_ok,Sem.run_pure];refine⟨_,_,ids,hS2.put (s:=.aW none 3 (y::l)) hd hfr ?_,h⟩;refine(Bn (c:=3)).2 ⟨bC,?_,h3.le hle,fun _ b hb=>?_,trivial,h5⟩
     ·have hrd:=h2.reads;refine⟨hrd.1,?_⟩;rcases hrd.2 with q|⟨b',o',c',q1,q2,q3,q4⟩
      ·exact .inl q
      ·exact .inr ⟨b',o',c',q1,q2,q3,fun i v hi=>by rw [OL];exact q4 i v hi⟩
     ·cases hb;exact .inr rfl
   ·cases h
  ·cases h
 ·cases h
theorem bytes_ok (hS:Sat C σ m ids a) (hd:o7 d C.N=true) (hfr:fresh σ d=true) {S T:TypeId} {x:Operand} {s:SV} {u:Value} (h1:isStr E S=true) (hx:XK.ev (dO a) x=some u) (hs:Den m ids s u) (h:K8 E σ d T s K) :
   I4 E C K a m.w ⟨d,.convert S T x,ty,pos,af,g⟩:=by
 have e1:=(aR a).ev hx;have hS1:=uR h1;unfold K8 at h;split at h
 ·rename_i e i s he;obtain⟨hu,hE,hK,hB⟩:=iW he;split at h
  ·rename_i hc hTe;have hc:=dI hc;obtain⟨⟨hlim⟩,hk⟩:=h;have hue:E.P.underlying e=some (.int .u8):=fK hTe;rw [Den]at hs;obtain⟨rfl,_⟩:=hs;have hr:=Lib.run_convert_string_bytes (P:=E.P) m.w S T e s hS1 hu hue;have hext:Ext m.w (Lib.bytesWorld m.w e s):=Lib.bytesWorld_below _ _ _;have hsz:(Lib.bytesWorld m.w e s).heap.size=m.w.heap.size+1:=Lib.bytesWorld_size _ _ _;have h0:=hS.mod.size
   have hS':=(hS.ext hext).addS (b:=m.w.heap.size) (by show _<(Lib.bytesWorld m.w e s).heap.size;omega) h0 fun i hb hi hf=>by
     have:=rW (hS.heap.sat i hb hi) hf;omega
   have hout:Out C K (a.put d (.slice (some ⟨m.w.heap.size,0,none⟩) s.size (grownCap m.w s.size 0 e))) (Lib.bytesWorld m.w e s):=by
     refine⟨_,_,ids,hS'.put (s:=.aW none 3 s.data.toList) hd hfr ?_,hk⟩;refine(Bn (c:=3)).2 ?_;have hel:=ru (m:=⟨Lib.bytesWorld m.w e s,fun k=>m.S k\/k=m.w.heap.size⟩) s.data.toList
     have hll:@ln (ah 3) s.data.toList=s.size:=(Lib.size_eq s).symm;refine⟨_,?_,hel,fun _ b hb=>?_,trivial,?_⟩
     ·rw [qZ];refine⟨?_,?_⟩
      ·rw [Lib.byteCells_length];exact(Nat.mul_one _).symm
      ·refine .inr ⟨m.w.heap.size,0,_,by rw [hll],by rw [hll];exact grownCap_ge _ _ _ _,grownCap_le_maxLen _ _ _ _ (by unfold maxLen;omega),fun j v hj=>?_⟩
       have hlt:j<s.size:=by
         have:=(List.getElem?_eq_some_iff.1 hj).1;rw [Lib.byteCells_length,<- Lib.size_eq]at this;exact this
       have hc:=Lib.bytesWorld_cell m.w e s j hlt;rw [Nat.zero_add];refine hc.trans ?_;rw [<- hj];unfold Lib.byteCells;rw [List.getElem?_map,List.getD_eq_getElem?_getD];have hlt2:j<s.data.toList.length:=by rw [<- Lib.size_eq];exact hlt
       rw [bZ hlt2];rfl
     ·cases hb;exact .inr rfl
     ·rw [hll];unfold WS;have:BT 3=1:=rfl;rw [this,Nat.mul_one];omega
   unfold I4;simp only [execOp,e1,Sem.run_bind,hr,Result.andThen_ok,Sem.run_pure];exact⟨hext,hout⟩
  ·cases h
 ·cases h
theorem V9 (hS:Sat C σ m ids a) (hd:o7 d C.N=true) (hfr:fresh σ d=true) {S T:TypeId} {x:Operand} {s:SV} {u:Value} (h1:isStr E S=true) (hx:XK.ev (dO a) x=some u) (hs:Den m ids s u) (h:vU E σ d T s K) :
   I4 E C K a m.w ⟨d,.convert S T x,ty,pos,af,g⟩:=by
 have e1:=(aR a).ev hx;have hS1:=uR h1;unfold vU at h;split at h
 ·rename_i e i s he;obtain⟨hu,hE,hK,hB⟩:=iW he;split at h
  ·rename_i hc hTe;obtain⟨⟨hlim⟩,hk⟩:=h;have hue:E.P.underlying e=some (.int .u8):=fK hTe;rw [Den]at hs;obtain⟨rfl,_⟩:=hs;have hr:=Lib.run_convert_string_bytes (P:=E.P) m.w S T e s hS1 hu hue;have hext:Ext m.w (Lib.bytesWorld m.w e s):=Lib.bytesWorld_below _ _ _;have hge:s.size<=grownCap m.w s.size 0 e:=grownCap_ge _ _ _ _;have hll:@ln (ah 3) s.data.toList=s.size:=(Lib.size_eq s).symm;have hel:=ru (m:=m) s.data.toList;have hbl:(Lib.byteCells s.data.toList).length=s.size:=by rw [Lib.byteCells_length,<- Lib.size_eq]
   have hsd:s.data.size=s.size:=rfl
   have hown:gU (Lib.bytesWorld m.w e s) 0 e (KT 3) (.slice (some ⟨m.w.heap.size,0,none⟩) s.size (grownCap m.w s.size 0 e)) s.size (Lib.byteCells s.data.toList):=by
     have hK1:KT 3=1:=rfl;rw [hK1];refine⟨by rw [hbl,Nat.mul_one],.inr ⟨m.w.heap.size,0,_,Lib.bytesCells m.w e s,rfl,Nat.zero_le _,⟨⟨_,Lib.bytesWorld_at_new m.w e s,.inr (Nat.le_refl _)⟩⟩,hge,grownCap_le_maxLen _ _ _ _ (by unfold maxLen;omega),?_,?_⟩⟩
     ·unfold Lib.bytesCells;rw [Array.size_append,Array.size_map,Array.size_replicate,hsd];omega
     ·unfold Lib.bytesCells;rw [List.drop_zero,Nat.mul_one,Array.toList_append,Array.toList_map];have:(List.map (fun b:UInt8=>Value.int .u8 (b.toNat:Int)) s.data.toList).length=s.size:=by rw [List.length_map];exact hll
      rw [List.take_append_of_le_length au,List.take_of_length_le au]
      rfl
   have hout:Out C K (a.put d (.slice (some ⟨m.w.heap.size,0,none⟩) s.size (grownCap m.w s.size 0 e))) (Lib.bytesWorld m.w e s):=by
     refine yA (z:=none) (c:=3) (l:=s.data.toList) (bC:=s.data.toList.map fun b=>[Value.int .u8 b.toNat]) hS hd hfr hext ?_ (fun b hb=>by cases hb;exact Nat.le_refl _) hel trivial (by rw [hll];have:BT 3=1:=rfl;rw [this,Nat.mul_one];omega) hk
     rw [hll,qZ];exact hown
   unfold I4;simp only [execOp,e1,Sem.run_bind,hr,Result.andThen_ok,Sem.run_pure];exact⟨hext,hout⟩
  ·cases h
 ·cases h
end
end Go.SX
