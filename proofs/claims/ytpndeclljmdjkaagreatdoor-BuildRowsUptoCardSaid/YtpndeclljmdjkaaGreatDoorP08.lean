/- A part of the proof (texts ST, SU, GK, SW, Tys, Ky). -/
import Derived.KernelRfl
import Derived.Test.YtpndeclljmdjkaaGreatDoorP07
import Derived.Test.YtpndeclljmdjkaaGreatDoorProg
set_option linter.all false
set_option maxRecDepth 100000
namespace Go.SX
open Nat renaming eq_of_beq_eq_true -> dI
open Go.XK Go.RowKit
mutual
theorem Yr:∀ (s:SV) {t:SV} {k:ShS s->Prop},puS s t k->∃ x,k x:=by
 intro s t k h;cases s<;>simp only [puS]at h
 case agg l =>
               split at h;· exact LM l h
               ·exact h.elim
 case jm l =>
               split at h;· exact LM l h
               ·exact h.elim
 all_goals first|exact⟨_,h⟩|(split at h<;>first|exact h.elim|exact⟨_,h⟩|(split at h<;>first|exact h.elim|exact⟨_,h⟩))
theorem LM:∀ (l:List SV) {q:List SV} {k:ShL l->Prop},puL l q k->∃ x,k x:=by
 intro l q k h
 cases l with
 |nil=>simp only [puL]at h;exact⟨_,h⟩
 |cons s r =>
   simp only [puL]at h;split at h
   ·exact h.elim
   ·obtain⟨x,h⟩:=Yr s h;obtain⟨y,h⟩:=LM r h;exact⟨_,h⟩
end
theorem puB_ex {s t:HB} {k:ShB s->Prop} (h:puB s t k):∃ x,k x:=by
 cases s<;>simp only [puB]at h
 case row T cs =>
                  split at h;· exact LM cs h
                  ·exact h.elim
 all_goals first|exact⟨_,h⟩|(split at h<;>first|exact h.elim|exact⟨_,h⟩|(split at h<;>first|exact h.elim|exact⟨_,h⟩))
theorem Yq {σ:St}:∀ {l:List (Nat×SV)} {k:ShU l->Prop},puU σ l k->∃ x,k x
 |[],_,h=>⟨_,h⟩
 |p::r,k,h=>by
   simp only [puU]at h;split at h
   ·obtain⟨x,h⟩:=Yr p.2 h;obtain⟨y,h⟩:=Yq h;exact⟨_,h⟩
   ·exact h.elim
theorem Yp {σ:St} {f:Nat->Nat}:∀ {l:List (Nat×HB)} {k:ShV l->Prop},puV σ f l k->∃ x,k x
 |[],_,h=>⟨_,h⟩
 |p::r,k,h=>by
   simp only [puV]at h;split at h
   ·obtain⟨x,h⟩:=puB_ex h;obtain⟨y,h⟩:=Yp h;exact⟨_,h⟩
   ·exact h.elim
section
variable (nl:List (Nat×TypeId×Nat)) (us:List Nat) (ov:List (Nat×SV)) (hs ks dr:List Nat)
theorem Nn {σ:St} {k:List (Nat×SV)->List (Nat×HB)->Nat->Prop} (h:RJ nl us ov hs σ k):∃ pu pv q,k pu pv q:=by
 unfold RJ at h;simp only [aam,aaj,oL]at h;exact⟨_,_,_,h⟩
theorem E8 {σ σ':St} {pu:List (Nat×SV)} {pv:List (Nat×HB)} {q:Nat} {k:ShU pu->ShV pv->Prop} (h:Nl nl σ σ' pu pv q k):∃ x y,k x y:=by
 unfold Nl at h;simp only [Ma,Q9]at h;obtain⟨x,h⟩:=Yq h;obtain⟨y,h⟩:=Yp h;exact⟨x,y,h⟩
end
def OutE (C:Cx) (K:Exit->St->Prop) (e:Exit) (a:Act) (w:World):Prop:=∃ σ S ids,Sat C σ ⟨w,S⟩ ids a/\K e σ
section
variable {E:En} {C:Cx} {σ τ:St} {m:Mm} {ids:List Value} {a:Act} {DB:Db E}
theorem LD.z {c:Nat} {z z':Option Bool} {l:Li c} {y:Value} (hz:zle z z') (h:LD (KT c) (BT c) (eu c) z l m y):LD (KT c) (BT c) (eu c) z' l m y:=by
 rcases hz with rfl|rfl
 ·exact h.anyZ
 ·exact h
theorem LD.zp {c:Nat} {z z':Option Bool} {l:Li c} {y:Value} (hz:zlp z z' l.length) (h:LD (KT c) (BT c) (eu c) z l m y):LD (KT c) (BT c) (eu c) z' l m y:=by
 rcases hz with rfl|rfl|⟨rfl,hn⟩
 ·exact h.anyZ
 ·exact h
 ·obtain⟨bC,h1,h2,h3,_,h5⟩:=h;obtain⟨b,q,cp,rfl,_⟩:=h1.has au
  exact⟨bC,h1,h2,h3,rfl,h5⟩
theorem Bl {c d:Nat} {l:Li c} {l':Li d} (h:eqL c d l l'):∃ e:c=d,e▸l=l':=by
 unfold eqL at h;split at h
 ·rename_i e _;subst e;exact⟨rfl,h⟩
 ·exact h.elim
mutual
theorem CQ:∀ (s t:SV) {y:Value},IZ s t->Den m ids s y->Den m ids t y:=by
 intro s t y h hd;have un:Den m ids .un y:=by rw [Den];trivial
 have eq:s=t->Den m ids t y:=fun e=>e▸hd
 cases s with
 |i a=>cases t<;>simp only [IZ]at h<;>first|exact un|exact eq (by rw [h])|exact h.elim
 |b a=>cases t<;>simp only [IZ]at h<;>first|exact un|exact eq (by rw [h])|exact h.elim
 |w8 a=>cases t<;>simp only [IZ]at h<;>first|exact un|exact eq (by rw [h])|exact h.elim
 |w32 a=>cases t<;>simp only [IZ]at h<;>first|exact un|exact eq (by rw [h])|exact h.elim
 |jg a=>cases t<;>simp only [IZ]at h<;>first|exact un|exact eq (by rw [h])|exact h.elim
 |str a=>cases t<;>simp only [IZ]at h<;>first|exact un|exact eq (by rw [h])|exact h.elim
 |aW z c l =>
   cases t<;>simp only [IZ]at h<;>first|exact un|skip
   case aW z' c' l' =>
     obtain⟨hz,he⟩:=h;obtain⟨e,he⟩:=Bl he;subst e;subst he;rw [Bn]at hd ⊢;exact LD.zp hz hd
 |jm a =>
   cases t<;>simp only [IZ]at h<;>first|exact un|skip
   case jm b =>
     rw [Den]at hd ⊢;obtain⟨us,rfl,h1⟩:=hd;exact⟨us,rfl,He a b h h1⟩
 |agg a =>
   cases t<;>simp only [IZ]at h<;>first|exact un|skip
   case agg b =>
     rw [Den]at hd ⊢;obtain⟨us,rfl,h1⟩:=hd;exact⟨us,rfl,He a b h h1⟩
 |v x =>
   cases t<;>simp only [IZ]at h<;>first|exact un|exact eq h|skip
   case aW z' c' l' =>
     split at h
     ·obtain⟨hz,he⟩:=h;subst he;cases oM hd;rw [Bn];exact LD.z hz ⟨[],⟨by simp,.inl ⟨⟨_,rfl⟩,rfl⟩⟩,eH.nil,fun h=>absurd rfl h,rfl,by simp⟩
     ·exact h.elim
 |_=>cases t<;>simp only [IZ]at h<;>first|exact un|exact eq h|exact h.elim
theorem He:∀ (s t:List SV) {us:List Value},Zr s t->aC m ids s us->aC m ids t us
 |[],[],_,_,h=>h
 |s::r,t::q,us,h,hd=>by
   rw [Zr]at h;rw [aC]at hd ⊢;obtain⟨u,us',rfl,h1,h2⟩:=hd;exact⟨u,us',rfl,CQ s t h.1 h1,He r q h.2 h2⟩
 |[],_::_,_,h,_=>by rw [Zr]at h;exact h.elim
 |_::_,[],_,h,_=>by rw [Zr]at h;exact h.elim
end
theorem Zt {h h':HB} {i:Nat} (hl:leH h h') (hs:jG m ids i h):jG m ids i h'/\h'.own=h.own:=by
 unfold leH at hl;split at hl
 ·obtain⟨rfl,hl⟩:=hl;obtain⟨b,vs,h1,h2,h3⟩:=hs;exact⟨⟨b,vs,h1,h2,He _ _ hl h3⟩,rfl⟩
 ·obtain⟨rfl,hl⟩:=hl;obtain⟨b,vs,h1,h2,h3,h4⟩:=hs;exact⟨⟨b,vs,h1,h2,He _ _ hl h3,h4⟩,rfl⟩
 ·rename_i T z c l T' z' c' l';obtain⟨rfl,hz,he⟩:=hl;obtain⟨e,he⟩:=Bl he;subst e;subst he;obtain⟨v,bC,h1,h2,h3,h4,h5⟩:=hs;refine⟨⟨v,bC,h1,h2,h3,?_,h5⟩,rfl⟩;rcases hz with rfl|rfl
  ·trivial
  ·exact h4
 ·rename_i z c l z' c' l';obtain⟨hz,he⟩:=hl;obtain⟨e,he⟩:=Bl he;subst e;subst he;obtain⟨v,h1,h2⟩:=hs;exact⟨⟨v,h1,LD.z hz h2⟩,rfl⟩
 ·obtain⟨rfl,rfl,he⟩:=hl;obtain⟨e,he⟩:=Bl he;subst e;subst he;exact⟨hs,rfl⟩
 ·unfold eqM at hl;split at hl
  ·rename_i e g _ _;subst e;subst g;subst hl;exact⟨hs,rfl⟩
  ·exact hl.elim
 ·subst hl;exact⟨hs,rfl⟩
theorem Fw {n z:Nat} {r:List Nat}:∀ {l:List (Nat×SV)},Eh σ n z r l->∀ p∈l,∃ s,σ.slot [] p.1=some s/\IZ s (ren n z r p.2)
 |[],_,_,h=>by cases h
 |(t,s)::l,h,p,hp=>by
   simp only [Eh]at h;split at h
   ·rename_i s' hs;rcases List.mem_cons.1 hp with rfl|hp
    ·exact⟨s',hs,h.1⟩
    ·exact Fw h.2 p hp
   ·exact h.elim
theorem Hr {n z:Nat} {r:List Nat}:∀ {l:List (Nat×HB)},MF σ n z r l->∀ p∈l,∃ h,lk σ.heap (rn n z r p.1)=some h/\leH h (zG n z r p.2)
 |[],_,_,h=>by cases h
 |(t,s)::l,h,p,hp=>by
   simp only [MF]at h;split at h
   ·rename_i s' hs;rcases List.mem_cons.1 hp with rfl|hp
    ·exact⟨s',hs,h.1⟩
    ·exact Hr h.2 p hp
   ·exact h.elim
theorem JR {n z:Nat} {r:List Nat}:∀ {l:List (Nat×HB)},(Od n z r l).Nodup->∀ p∈l,∀ q∈l,rn n z r p.1=rn n z r q.1->p.1=q.1
 |[],_,_,h,_,_,_=>by cases h
 |(i,s)::l,h,p,hp,q,hq,e=>by
   simp only [Od,List.nodup_cons]at h
   have mem:∀ {l:List (Nat×HB)} (p:Nat×HB),p∈l->rn n z r p.1∈Od n z r l:=by
     intro l
     induction l with
     |nil=>intro p h;cases h
     |cons x l ih =>
       intro p h;rcases List.mem_cons.1 h with rfl|h
       ·exact List.mem_cons_self ..
       ·exact List.mem_cons_of_mem _ (ih p h)
   rcases List.mem_cons.1 hp with rfl|hp<;>rcases List.mem_cons.1 hq with rfl|hq
   ·rfl
   ·exact absurd (by rw [e];exact mem q hq) h.1
   ·exact absurd (by rw [<- e];exact mem p hp) h.1
   ·exact JR h.2 p hp q hq e
theorem GY {n:Nat} {r:List Nat} (hS:Sat C σ m ids a) (hg:τ.gen=[]) (hk:τ.kn=[]) (h:meets n r σ τ):∃ aO,Sat C τ m aO a/\Rn' n σ.nb r aO ids:=by
 obtain⟨h3,h1,h2⟩:=h;simp only [Bool.and_eq_true]at h3;obtain⟨q1,q2,q3,q4,q5,q6,q7⟩:=h3;have q1:=og q1;have q2:=dI q2;have q3:=Nat.le_of_ble_eq_true q3;have q4:=Nat.le_of_ble_eq_true q4;have q5:=dI q5;have q6:=og q6;have q7:=wO q7;rw [len_eq]at q2;have hlen:=hS.len;have hs:=Fw h1;have hh:=Hr h2
 obtain⟨aO,hl',hrr,hpre⟩:∃ aO:List Value,aO.length=τ.nb/\Rn' n σ.nb r aO ids/\∀ i,i<n->aO[i]?=ids[i]?:=by
   refine⟨ids.take n++r.map fun j=>ids.getD j undef,by rw [List.length_append,List.length_map,List.length_take];omega,fun i=>?_,fun i hi=>?_⟩
   ·by_cases hi:i<n
    ·have e:rn n σ.nb r i=i:=by
       unfold rn;have:Nat.blt i n=true:=Nat.ble_eq_true_of_le hi;rw [this]
     rw [e,List.getElem?_append_left (by rw [List.length_take];omega),List.getElem?_take,if_pos hi]
    ·have e:rn n σ.nb r i=match nth r (i-n)with
         |some j=>j
         |none=>i+σ.nb:=by
       unfold rn
       have:Nat.blt i n=false:=by
         cases hb:Nat.blt i n with
         |false=>rfl
         |true=>exact absurd (Nat.le_of_ble_eq_true hb) hi
       rw [this];rfl
     rw [e,List.getElem?_append_right (by rw [List.length_take];omega),List.length_take,show i-min n ids.length=i-n by omega,List.getElem?_map,pE]
     cases hr:r[i-n]? with
     |none=>simp only [Option.map_none];rw [List.getElem?_eq_none au]
     |some j =>
       have:=q1 j (List.mem_of_getElem? hr);simp only [Option.map_some];rw [List.getD_eq_getElem?_getD,List.getElem?_eq_getElem au,Option.getD_some]
   ·rw [List.getElem?_append_left (by rw [List.length_take];omega),List.getElem?_take,if_pos hi]
 have Gn:∀ i hb,lk τ.heap i=some hb->hb≠.gone->(i,hb)∈live [] τ.heap:=fun i hb hi hb'=>yC hi hb' (by simp)
 have ng:∀ {i hb b},Fp aO i hb b->hb≠.gone:=fun⟨h,_⟩ e=>by subst e;cases h
 have fpo:∀ i hb b,lk τ.heap i=some hb->Fp aO i hb b->∃ h0,lk σ.heap (rn n σ.nb r i)=some h0/\Fp ids (rn n σ.nb r i) h0 b:=fun i hb b hi hf=>by
   obtain⟨h0,p1,p2⟩:=hh _ (Gn i hb hi (ng hf));obtain⟨q1,v,q2,q3⟩:=hf.ren (hb:=hb) hrr.rn;exact⟨h0,p1,(Zt p2 (hS.heap.sat _ _ p1)).2.symm.trans q1,v,q2,q3⟩
 refine⟨aO,⟨⟨hl',⟨fun i hb hi=>?_,fun i hb j hb' hi hj hne b f1 f2=>?_,fun i hb b hi f1=>?_⟩,fun i hb b hi f1=>?_,hS.S0,hS.S,hS.mod,hS.oH,by rw [<- q5];exact hS.n0,fun i hi=>?_⟩,⟨hS.size,hS.defers,fun t s hl=>?_,fun t π s hl=>?_,fun s b hl=>?_⟩⟩,hrr⟩
 ·by_cases hgo:hb=.gone
  ·subst hgo;trivial
  ·obtain⟨h0,p1,p2⟩:=hh _ (Gn i hb hi hgo);exact jG.kN hrr (Zt p2 (hS.heap.sat _ _ p1)).1
 ·obtain⟨_,p1,p2⟩:=fpo i hb b hi f1;obtain⟨_,p3,p4⟩:=fpo j hb' b hj f2;exact hS.heap.sep _ _ _ _ p1 p3 (fun e=>hne (JR q7 _ (Gn i hb hi (ng f1)) _ (Gn j hb' hj (ng f2)) e)) b p2 p4
 ·obtain⟨_,p1,p2⟩:=fpo i hb b hi f1;exact hS.heap.vG _ _ b p1 p2
 ·obtain⟨_,p1,p2⟩:=fpo i hb b hi f1;exact hS.low _ _ b p1 p2
 ·rw [hpre i au]
  exact hS.pre i au
 ·obtain⟨s0,h4,h7⟩:=hs (t,s) (G8 hl);obtain⟨h5,h6⟩:=hS.toSatF.slot holds_nil h4;exact⟨by rw [<- hS.size];exact h5,Den.kN hrr s (CQ _ _ h7 h6)⟩
 ·rw [hg]at hl;cases hl
 ·rw [hk]at hl;cases hl
theorem Gh {t:Nat} (ht:t<a.tmps.size):a.put (some t) (a.tmps.getD t undef)=a:=by
 have e0:a.tmps.getD t undef=a.tmps[t]:=by rw [Array.getD_eq_getD_getElem?,Array.getElem?_eq_getElem ht];rfl
 have:a.tmps.setIfInBounds t (a.tmps.getD t undef)=a.tmps:=by
   rw [e0];apply Array.ext
   ·simp
   ·intro i h1 h2;rw [Array.getElem_setIfInBounds];split
    ·rename_i e;subst e;rfl
    ·rfl
 show(⟨a.tmps.setIfInBounds t (a.tmps.getD t undef),a.defers⟩:Act)=a;rw [this]
theorem Sat.rowD {T:TypeId} {cs cs':List SV} {j:Nat} (h:Sat C σ m ids a) (hj:lk σ.heap j=some (.row T cs)) (hd:∀ us,aC m ids cs us->aC m ids cs' us):Sat C (setH σ j (.row T cs')) m ids a:=by
 have hl:∀ i,i≠j->lk (setH σ j (.row T cs')).heap i=lk σ.heap i:=fun i hi=>by
   simp only [setH,bG];split
   ·rename_i e;exact absurd e.symm hi
   ·rfl
 have hl2:lk (setH σ j (.row T cs')).heap j=some (.row T cs'):=by simp only [setH,bG];simp
 have key:∀ i hb0,lk (setH σ j (.row T cs')).heap i=some hb0->∃ hb1,lk σ.heap i=some hb1/\(∀ b,Fp ids i hb0 b->Fp ids i hb1 b)/\(jG m ids i hb1->jG m ids i hb0):=fun i hb0 hi=>by
   by_cases e:i=j
   ·subst e;rw [hl2]at hi;cases hi;exact⟨_,hj,fun b hf=>hf,fun⟨b,vs,h1,h2,h3⟩=>⟨b,vs,h1,h2,hd vs h3⟩⟩
   ·rw [hl i e]at hi;exact⟨_,hi,fun b hf=>hf,fun h=>h⟩
 refine⟨⟨h.len,⟨fun i hb0 hi=>?_,fun i hb0 k hb1 hi hk hne b hf hf'=>?_,fun i hb0 b hi hf=>?_⟩,fun i hb0 b hi hf=>?_,h.S0,h.S,h.mod,h.oH,h.n0,h.pre⟩,h.toSatF.of rfl rfl rfl⟩
 ·obtain⟨hb1,h1,h2,h3⟩:=key i hb0 hi;exact h3 (h.heap.sat i hb1 h1)
 ·obtain⟨hb2,h1,h2,_⟩:=key i hb0 hi;obtain⟨hb3,h4,h5,_⟩:=key k hb1 hk;exact h.heap.sep i hb2 k hb3 h1 h4 hne b (h2 b hf) (h5 b hf')
 ·obtain⟨hb2,h1,h2,_⟩:=key i hb0 hi;exact h.heap.vG i hb2 b h1 (h2 b hf)
 ·obtain⟨hb2,h1,h2,_⟩:=key i hb0 hi;exact h.low i hb2 b h1 (h2 b hf)
theorem YD:∀ (cs:List SV) (o:Nat),over cs o []=cs
 |[],_=>by simp [over]
 |_::_,_=>by simp [over]
theorem yx {s0 s:SV}:∀ {cs:List SV} {o:Nat} {us:List Value},nth cs o=some s0->(∀ u,Den m ids s0 u->Den m ids s u)->aC m ids cs us->aC m ids (over cs o [s]) us
 |[],_,_,h,_,_=>by cases h
 |x::r,0,us,h,hs,hd=>by
   cases h;rw [aC]at hd;obtain⟨u,q,rfl,h1,h2⟩:=hd;rw [over,YD,aC];exact⟨u,q,rfl,hs u h1,h2⟩
 |x::r,o+1,us,h,hs,hd=>by
   rw [aC]at hd;obtain⟨u,q,rfl,h1,h2⟩:=hd;rw [over,aC];exact⟨u,q,rfl,h1,yx (cs:=r) h hs h2⟩
theorem OW {j c:Nat} {lo hi:Int} {u u':Value} (h:Den m ids (.sub j c lo hi) u) (h':Den m ids (.sub j c lo hi) u'):u=u':=by
 rw [Den]at h h';obtain⟨a,n,cp,h1,_,_,_,_,_,_,rfl⟩:=h;obtain⟨a',n',cp',h2,_,_,_,_,_,_,rfl⟩:=h';rw [h1]at h2;cases h2;rfl
theorem nilC_ok (h:Sat C σ m ids a) (i o:Nat) (e:TypeId) (c:Nat):∃ aO,Sat C (nilC σ i o e c) m aO a/\∀ s y,Den m ids s y->Den m aO s y:=by
 unfold nilC;split
 ·rename_i T cs hi
  have hne:i≠σ.nb:=by
    obtain⟨b,vs,h2,_⟩:=h.heap.sat i _ hi;have:=(List.getElem?_eq_some_iff.1 h2).1;rw [h.len]at this;omega
  split
  ·rename_i hn;split
   ·exact⟨ids,h.rowD hi fun us hd=>yx hn (fun u hu=>by
      cases oM hu;rw [Den]
      exact⟨[],⟨by simp,.inl ⟨⟨_,rfl⟩,rfl⟩⟩,eH.nil,fun h=>absurd rfl h,rfl,by simp⟩) hd,fun _ _ h=>h⟩
   have h1:=h.newB (Ext.refl m.w) (.slice none 0 0) (.arr e none c []) ⟨_,[],iq h _,⟨by simp,.inl ⟨rfl,rfl⟩⟩,eH.nil,trivial,by simp⟩ (fun b hf=>by
     have:=oC h hf
     cases this)
   refine⟨ids++[.slice none 0 0],?_,fun s y hd=>Den.app _ s hd⟩
   unfold Yo
   have hi2:lk (j3 σ (.arr e none c [])).heap i=some (.row T cs):=by
     simp only [j3,bG];split
     ·rename_i e;exact absurd e.symm hne
     ·exact hi
   rw [hi2];exact h1.rowD hi2 fun us hd=>yx hn (fun u hu=>by rw [oM hu];exact EL h m.w _ rfl) hd
  ·rename_i j c0 lo hi' hn;obtain⟨b,vs,_,_,hd0⟩:=h.heap.sat i _ hi;rw [pE]at hn;obtain⟨u0,_,hu0⟩:=hd0.get hn;obtain⟨zT,q1,q2,_,_,q5⟩:=x9 h hu0;refine⟨zT,?_,q5⟩;show Sat C (Yo (wz σ (.sub j c0 lo hi')).1 i o (wz σ (.sub j c0 lo hi')).2) m zT a;unfold Yo;split
   ·rename_i T2 cs2 hi2
    have hcs:cs2=cs:=by
      have e:lk (wz σ (.sub j c0 lo hi')).1.heap i=lk σ.heap i:=by
        unfold wz;simp only;split
        ·rename_i hj;split
         ·simp only [j3,setH,bG];split
          ·rename_i e;exact absurd e.symm hne
          ·split
           ·rename_i e;rw [<- e,hj]at hi;cases hi
           ·rfl
         ·rfl
        ·rfl
      rw [e,hi]at hi2;cases hi2;rfl
    subst hcs;exact q1.rowD hi2 fun us hd=>yx (by rw [pE];exact hn) (fun u hu=>by rw [OW hu (q5 _ _ hu0)];exact q2) hd
   ·exact q1
  ·exact⟨ids,h,fun _ _ h=>h⟩
 ·exact⟨ids,h,fun _ _ h=>h⟩
theorem Er:∀ (nl:List (Nat×TypeId×Nat)) {σ:St} {m:Mm} {ids:List Value},Sat C σ m ids a->∃ aO S',Sat C (pF nl σ) ⟨m.w,S'⟩ aO a/\m.le ⟨m.w,S'⟩/\∀ s y,Den m ids s y->Den ⟨m.w,S'⟩ aO s y
 |[],σ,m,ids,h=>⟨ids,m.S,h,Mm.le.refl m,fun _ _ h=>h⟩
 |(t,e,c)::r,σ,m,ids,h=>by
   have go:∀ {σ1:St} {zT:List Value} {S1:Nat->Prop},Sat C σ1 ⟨m.w,S1⟩ zT a->m.le ⟨m.w,S1⟩->(∀ s y,Den m ids s y->Den ⟨m.w,S1⟩ zT s y)->∃ aO S',Sat C (pF r σ1) ⟨m.w,S'⟩ aO a/\m.le ⟨m.w,S'⟩/\∀ s y,Den m ids s y->Den ⟨m.w,S'⟩ aO s y:=fun h1 h2 h3=>by
     obtain⟨aO,S',k1,k2,k3⟩:=Er r h1;exact⟨aO,S',k1,h2.trans k2,fun s y hd=>k3 s y (h3 s y hd)⟩
   have go':∀ {σ1:St} {zT:List Value},Sat C σ1 m zT a->(∀ s y,Den m ids s y->Den m zT s y)->∃ aO S',Sat C (pF r σ1) ⟨m.w,S'⟩ aO a/\m.le ⟨m.w,S'⟩/\∀ s y,Den m ids s y->Den ⟨m.w,S'⟩ aO s y:=fun h1 h3=>go (S1:=m.S) h1 (Mm.le.refl m) h3
   rw [pF];split
   ·split
    ·obtain⟨zT,h1,h2⟩:=nilC_ok h _ (t / 100000-1) e c;exact go' h1 h2
    ·exact go' h fun _ _ h=>h
   ·split
    ·rename_i hs hfr;obtain⟨ht,hv⟩:=h.toSatF.slot holds_nil hs;have hv:=oM hv
     have h1:=h.newB (Ext.refl _) (.slice none 0 0) (.arr e none c []) ⟨_,[],iq h _,⟨by simp,.inl ⟨rfl,rfl⟩⟩,eH.nil,trivial,by simp⟩ (fun b hf=>by
       have:=oC h hf
       cases this)
     have h2:=h1.put (d:=some t) (s:=.bT σ.nb) (v:=a.tmps.getD t undef) (by simpa [o7,<- h.size] using ht) hfr (by rw [hv];exact EL h m.w _ rfl)
     rw [Gh ht]at h2;exact go' h2 fun s y hd=>Den.app _ s hd
    ·rename_i j c0 lo hi hs hfr;obtain⟨ht,hv⟩:=h.toSatF.slot holds_nil hs;obtain⟨zT,q1,q2,q3,q4,q5⟩:=x9 h hv;have h2:=q1.put (d:=some t) (s:=(wz σ (.sub j c0 lo hi)).2) (v:=a.tmps.getD t undef) (by simpa [o7,<- h.size] using ht) (by unfold fresh at hfr ⊢;rw [q3,q4];exact hfr) q2
     rw [Gh ht]at h2;exact go' h2 q5
    ·obtain⟨S',h1,h2⟩:=h.oZ [_];exact go h2 h1 fun s y hd=>Den.le h1 s hd
    ·rename_i i hs;obtain⟨ht,hv⟩:=h.toSatF.slot holds_nil hs;obtain⟨zT,q1,q2,q3,q4,q5,q6,q7⟩:=h.zF i;split
     ·rename_i he hfr;obtain⟨S',h1,h2⟩:=q1.oZ [i];have hvv:=BI h2 (Den.le h1 _ (q2 _ _ hv));have h3:=h2.put (d:=some t) (v:=a.tmps.getD t undef) (by simpa [o7,<- h.size] using ht) (by unfold fresh at hfr ⊢;rw [ql.1,ql.2,q4,q5];exact hfr) hvv
      rw [Gh ht]at h3;exact go h3 h1 fun s y hd=>Den.le h1 s (q2 s y hd)
     ·exact go' q1 q2
    ·exact go' h fun _ _ h=>h
theorem nV {n q:Nat} {nl:List (Nat×TypeId×Nat)} {U:List (Nat×SV)} {V:List (Nat×HB)} (hS:Sat C σ m ids a) (hg:τ.gen=[]) (hk:τ.kn=[]) (h:pG n q nl U V σ τ):∃ aO S',Sat C τ ⟨m.w,S'⟩ aO a:=by
 obtain⟨zT,S',h1,_⟩:=Er nl hS;obtain⟨Da,h2,_⟩:=GY h1 hg hk (QF.1 h);exact⟨Da,S',h2⟩
def LabOK (E:En) (C:Cx) (ops:Array Oper) (kd:Nat->Nat) (K1:St->Prop) (sH:List Lab):Prop :=
 ∀ k L,nth sH k=some L->∀ (m:Mm) (ids:List Value) (a:Act),Closed .any ops L.l->Sat C L.st m ids a->AnyX E.P ops .any kd (fun a w=>Out C K1 a w) (L.f+1) L.l a m.w
theorem Xc {ops:Array Oper} (jF:C.G=E.G) {kd:Nat->Nat} {K1:St->Prop} {sH:List Lab} (hL:LabOK E C ops kd K1 sH):∀ (p:PJ) (f:Nat) {listed:Array Bool} {σ:St} {m:Mm} {ids:List Value} {a:Act},Closed .any ops listed->Sat C σ m ids a->vcJ E DB C.N ops kd sH p f listed σ K1 ->
   AnyX E.P ops .any kd (fun a w=>Out C K1 a w) f listed a m.w:=by
 intro p
 induction p with
 |jmp k =>
   intro f listed σ m ids a hcl hS h;rw [vcJ]at h;split at h
   ·rename_i L hk;obtain⟨h1,h2⟩:=h;simp only [Bool.and_eq_true]at h1;obtain⟨h3,h4,h5⟩:=h1;have h3:=dI h3;have h4:listed=L.l:=by simpa using h4
    subst h3 h4
    have hg:L.st.gen=[]/\L.st.kn=[]:=by
      unfold Lab.ok at h5;split at h5
      ·rename_i q1 q2;exact⟨q1,q2⟩
      ·cases h5
    obtain⟨aO,S',h6⟩:=nV hS hg.1 hg.2 h2;exact hL k L hk ⟨m.w,S'⟩ aO a hcl h6
   ·cases h
 |fin =>
   intro f listed σ m ids a hcl hS h;rw [vcJ,wm]at h;obtain⟨h1,h2⟩:=h;have hr:Region.ready .any ops listed=[]:=List.isEmpty_iff.1 h1
   have fin:∀ w,Ext m.w w->Out C K1 a w:=fun w hw=>by
     have h1:=hS.ext hw;refine⟨{ σ with gen:=[],kn:=[] },m.S,ids,?_,h2⟩
     exact⟨h1.toSatH.of rfl rfl rfl,h1.size,h1.defers,h1.env,fun t π s hl=>(by cases hl),fun s b hl=>(by cases hl)⟩
   cases f with
   |zero=>exact⟨hr,fin⟩
   |succ f=>exact⟨fun _=>fin,fun i hi=>by rw [hr]at hi;cases hi⟩
 |take i p ih =>
   intro f listed σ m ids a hcl hS h
   cases f with
   |zero=>simp [vcJ]at h
   |succ f =>
     rw [vcJ]at h;obtain⟨h1,h2⟩:=h;simp only [BX,Bool.and_eq_true]at h1;obtain⟨⟨⟨⟨t1,t2⟩,t3⟩,t4⟩,t5⟩:=h1;have hr:i∈Region.ready .any ops listed:=by simpa using t3
     obtain⟨_,oi,hoi,_⟩:=mem_ready.1 hr;exact Dx t1 hcl hoi (by simpa using t2) t3 t4 t5 (eP (fun a w ⟨σ',S,aO,q1,q2⟩=>ih f (m:=⟨w,S⟩) (hcl.set hr) q1 q2) (iY jF hS h2))
theorem Kh {ops:Array Oper} {kd:Nat->Nat} {sH:List Lab} {f:Nat} {listed:Array Bool} {σ:St} {K1:St->Prop} {N:Nat}:∀ {al:List (Nat×PJ)},vcAl E DB N ops kd sH f listed σ K1 al->∀ i∈VX al,∃ p,sw E DB N ops kd i σ fun σ'=>vcJ E DB N ops kd sH p f (listed.setIfInBounds i true) σ' K1
 |[],_,i,hi=>by cases hi
 |(j,p)::r,h,i,hi=>by
   rw [vcAl]at h;rw [VX]at hi;rcases List.mem_cons.1 hi with rfl|hi
   ·exact⟨p,h.1⟩
   ·exact Kh h.2 i hi
theorem RZ {ops:Array Oper} (jF:C.G=E.G) {kd:Nat->Nat} {K1:St->Prop}:∀ (sH:List Lab),vcLs E DB C.N ops kd K1 sH->LabOK E C ops kd K1 sH
 |[],_=>fun k L h=>by simp [nth]at h
 |L::r,h=>by
   rw [vcLs]at h;obtain⟨h1,h2,h3⟩:=h;have ih:=RZ jF r h3;intro k L' hk
   cases k with
   |succ k=>exact ih k L' hk
   |zero =>
     cases hk;intro m ids a hcl hS;simp only [Bool.and_eq_true]at h1;have hr:Region.ready .any ops L.l=VX L.al:=by simpa using h1.1
     refine oU hr (fun e=>by rw [e]at h1;simp at h1) fun i hi=>?_
     obtain⟨p,hp⟩:=Kh h2 i hi;exact eP (fun a w ⟨σ',S,aO,q1,q2⟩=>Xc jF ih p _ (m:=⟨w,S⟩) (hcl.set (by rw [hr];exact hi)) q1 q2) (iY jF hS hp)
variable {ro:Option Nat}
def IV (ro:Option Nat) (P:Program) (c:Code) (Q:Exit->Act->World->Prop) (a:Act) (w:World):Prop :=
 ∀ (b:Frame) (k:List Item) (cs:List Frame),b.roundOf=(FR ro).round->(FR ro).fn b.fn->(FR ro).room (cs.length+1+0) ->
   ∃ e a' w',Q e a' w'/\ArrivesIn (Machine.fenced P (FR ro)) P (lone (b.atR a (.code c :: .inLoop c::k)) cs w) b k cs e a' w'
theorem JW {P:Program} {c:Code} {Q:Exit->Act->World->Prop} {a:Act} {w:World} (h:c.wpIn (FR ro) 0 P (Exit.then (fun a' w'=>IV ro P c Q a' w') Q) a w):IV ro P c Q a w:=by
 intro b k cs hro hb hr;obtain⟨e,a₁,w₁,hq,harr⟩:=h b (.inLoop c::k) cs hro hb hr
 cases e with
 |normal =>
   obtain⟨e₂,a₂,w₂,hq₂,harr₂⟩:=hq b k cs hro hb hr;exact⟨e₂,a₂,w₂,hq₂,.of_steps (StepsIn.trans harr (.one (fenced_calm hb hr rfl) stepR_inLoop)) harr₂⟩
 |exit id=>exact⟨_,a₁,w₁,hq,.pass (x:=.inLoop c) rfl (fun _ _=>.inl (by simp)) harr⟩
 |goto l=>exact⟨_,a₁,w₁,hq,.pass (x:=.inLoop c) rfl (fun _ _=>.inl (by simp)) harr⟩
 |ret=>exact⟨_,a₁,w₁,hq,.pass (x:=.inLoop c) rfl (fun _ _=>.inl (by simp)) harr⟩
 |panic ch=>exact⟨_,a₁,w₁,hq,.pass (x:=.inLoop c) rfl (fun _ _=>.inl (by simp)) harr⟩
 |outgrown=>exact⟨_,a₁,w₁,hq,.pass (x:=.inLoop c) rfl (fun _ _=>.inl (by simp)) harr⟩
theorem loop_of {P:Program} {c:Code} {Q:Exit->Act->World->Prop} {a:Act} {w:World} (h:IV ro P c Q a w):(Code.loop c).wpIn (FR ro) 0 P Q a w:=by
 intro b k cs hro hb hr;obtain⟨e,a',w',hq,harr⟩:=h b k cs hro hb hr;exact⟨e,a',w',hq,.of_steps (.one (fenced_calm hb hr rfl) stepR_loop) harr⟩
theorem JV {α:Type} {P:Program} {c:Code} {Q:Exit->Act->World->Prop} (I:α->Act->World->Prop) (μ:α->Nat) (s0:α) {w:World} (h0:I s0 a w)
   (round:∀ s a w,I s a w->c.wpIn (FR ro) 0 P (Exit.then (fun a' w'=>∃ s',I s' a' w'/\μ s'<μ s) Q) a w):IV ro P c Q a w:=by
 have key:∀ (n:Nat) s a1 w,μ s=n->I s a1 w->IV ro P c Q a1 w:=by
   intro n
   induction n using Nat.strongRecOn with
   |_ n ih =>
     intro s a w hn hI;refine JW (wpIn_mono (round s a w hI) fun e a' w' h'=>?_)
     cases e with
     |normal =>
       obtain⟨s',hI₁,hlt⟩:=h';exact ih (μ s') (hn▸hlt) s' a' w' rfl hI₁
     |_=>exact h'
 exact key _ s0 a w rfl h0
theorem sP (jF:C.G=E.G):∀ (c:Code) {σ:St} {K:Exit->St->Prop} {m:Mm} {ids:List Value} {a:Act},Sat C σ m ids a->vc E DB C.N c σ K->c.wpIn (FR ro) 0 E.P (OutE C K) a m.w
 |.skip,σ,K,m,ids,a,hS,h=>wpIn_skip ⟨σ,m.S,ids,hS,h⟩
 |.ret,σ,K,m,ids,a,hS,h=>wpIn_ret ⟨σ,m.S,ids,hS,h⟩
 |.exit i,σ,K,m,ids,a,hS,h=>wpIn_exit ⟨σ,m.S,ids,hS,h⟩
 |.region id ops false,σ,K,m,ids,a,hS,h=>by
   rw [vc]at h;refine Gc (fun _=>3) ?_
   have e:∀ k n,ig k n=List.range' k n:=by
     intro k n
     induction n generalizing k with
     |zero=>rfl
     |succ n ih=>rw [ig,ih,List.range'_succ]
   rw [List.range_eq_range',<- e];exact Fg jF _ hS h
 |.region id ops true,σ,K,m,ids,a,hS,h=>by
   rw [vc]at h;rcases h with ⟨kd,l,h1,h2⟩|⟨kd,p,h1⟩|⟨kd,sH,p,h1,h2⟩
   ·exact NG l _ E.hm h1 (Fg jF _ hS h2)
   ·exact AA _ E.hm (vcP_ok jF p _ (uY _) hS h1)
   ·exact AA _ E.hm (Xc jF (RZ jF sH h2) p _ (uY _) hS h1)
 |.seq x y,σ,K,m,ids,a,hS,h=>by
   rw [vc]at h
   have plain:vc E DB C.N x σ (fun e σ'=>match e with
       |.normal=>vc E DB C.N y σ' K
       |e=>K e σ')->(Code.seq x y).wpIn (FR ro) 0 E.P (OutE C K) a m.w:=fun h=>by
     refine wpIn_seq (wpIn_mono (sP jF x hS h) fun e a' w' h'=>?_)
     obtain⟨σ',S,aO,h1,h2⟩:=h'
     cases e with
     |normal=>exact sP jF y (m:=⟨w',S⟩) h1 h2
     |_=>exact⟨σ',S,aO,h1,h2⟩
   split at h
   ·exact plain h
   ·rcases h with h|h
    ·exact plain h
    rcases h with h|⟨nl,us,ov,hs,ks,dr,h⟩
    rotate_left
    ·obtain⟨pu,pv,q,F,h1,h2⟩:=Nn nl us ov hs h;refine wpIn_seq (wpIn_mono (sP jF x hS h1) fun e a' w' h'=>?_)
     obtain⟨σ',S,aO,h3,h4⟩:=h'
     cases e with
     |normal =>
       obtain⟨x,y',hF,hm⟩:=E8 nl h4;obtain⟨Da,S2,h5⟩:=nV h3 rfl rfl hm;exact sP jF y (m:=⟨w',S2⟩) h5 (by have:=h2 x y' hF;rw [iL]at this;exact this)
     |_=>exact⟨σ',S,aO,h3,h4⟩
    ·obtain⟨Sx,q,nl,ks,U,V,dr,F,h1,h2⟩:=h;refine wpIn_seq (wpIn_mono (sP jF x hS h1) fun e a' w' h'=>?_)
     obtain⟨σ',S,aO,h3,h4⟩:=h'
     cases e with
     |normal =>
       obtain⟨s,hF,hm⟩:=h4;obtain⟨Da,S2,h5⟩:=nV h3 rfl rfl hm;exact sP jF y (m:=⟨w',S2⟩) h5 (by have:=h2 s hF;rw [iL]at this;exact this)
     |_=>exact⟨σ',S,aO,h3,h4⟩
 |.cond c x y,σ,K,m,ids,a,hS,h=>by
   rw [vc]at h;split at h
   ·rename_i q hq;obtain⟨v,_,e,hd⟩:=hS.toSatF.ev (jF▸hS.oH) holds_nil hq;rw [Den]at hd;subst hd;exact wpIn_cond_split e (fun hq=>sP jF x hS (h.1 hq)) (fun hq=>sP jF y hS (h.2 hq))
   ·cases h
 |.block i c,σ,K,m,ids,a,hS,h=>by
   rw [vc]at h;refine wpIn_block (wpIn_mono (sP jF c hS h) fun e a' w' h'=>?_)
   obtain⟨σ',S,aO,h1,h2⟩:=h'
   cases e with
   |exit j =>
     simp only [Exit.inBlock];simp only at h2;split
     ·rename_i hj;subst hj;have:Nat.beq j j=true:=by simp
      rw [this]at h2;exact⟨σ',S,aO,h1,h2⟩
     ·rename_i hj
      have:Nat.beq j i=false:=by
        cases hb:Nat.beq j i with
        |false=>rfl
        |true=>exact absurd (dI hb) hj
      rw [this]at h2;exact⟨σ',S,aO,h1,h2⟩
   |_=>exact⟨σ',S,aO,h1,h2⟩
 |.loop c,σ,K,m,ids,a,hS,h=>by
   rw [vc]at h
   have hl:∀ {σ:St} {m:Mm} {ids:List Value} {a:Act},Sat C σ m ids a->loopS (vc E DB C.N c) σ K->IV ro E.P c (OutE C K) a m.w:=fun {σ m ids a} hS h=>by
     obtain⟨Sx,q,nl,ks,U,V,dr,F,μ,s0,hF0,hm0,hr⟩:=h;obtain⟨Ec,S0,hS0⟩:=nV hS rfl rfl hm0;refine JV (fun(s:{ s:Sx // F s }) a w=>∃ S ids,Sat C (hd σ ks q dr (U s.1) (V s.1)) ⟨w,S⟩ ids a) (fun s=>μ s.1) ⟨s0,hF0⟩ ⟨S0,Ec,hS0⟩ fun⟨s,hF⟩ a w ⟨S,ids,hS⟩=>?_
     refine wpIn_mono (sP jF c (m:=⟨w,S⟩) hS (by have:=hr s hF;rw [iL]at this;exact this)) fun e a' w' h'=>?_
     obtain⟨σ',S',aO,h1,h2⟩:=h'
     cases e with
     |normal =>
       obtain⟨s',hF',hlt,hm⟩:=h2;obtain⟨Da,S2,h5⟩:=nV h1 rfl rfl hm;exact⟨⟨s',hF'⟩,⟨S2,Da,h5⟩,hlt⟩
     |_=>exact⟨σ',S',aO,h1,h2⟩
   have hu:∀ (n:Nat) {σ:St} {m:Mm} {ids:List Value} {a:Act},Sat C σ m ids a->unr (vc E DB C.N c) n σ K->IV ro E.P c (OutE C K) a m.w:=fun n=>by
     induction n with
     |zero=>exact fun hS h=>hl hS h
     |succ n ih =>
       intro σ m ids a hS h;rw [unr]at h;refine JW (wpIn_mono (sP jF c hS h) fun e a' w' h'=>?_)
       obtain⟨σ',S',aO,h1,h2⟩:=h'
       cases e with
       |normal=>exact ih (m:=⟨w',S'⟩) h1 h2
       |_=>exact⟨σ',S',aO,h1,h2⟩
   refine loop_of ?_;rcases h with h|⟨n,h⟩|⟨nl,us,ov,hs,ks,dr,h⟩
   ·exact hl hS h
   ·exact hu n hS h
   ·obtain⟨pu,pv,q,F,μ,h⟩:=Nn nl us ov hs h;obtain⟨x0,y0,hF0,hm0,hr⟩:=E8 nl h;obtain⟨Ec,S0,hS0⟩:=nV hS rfl rfl hm0;refine JV (fun(s:{ s:ShU pu×ShV pv // F s.1 s.2 }) a w=>∃ S ids,Sat C (hd σ ks q dr (fiU pu s.1.1) (fiV pv s.1.2)) ⟨w,S⟩ ids a) (fun s=>μ s.1.1 s.1.2) ⟨(x0,y0),hF0⟩ ⟨S0,Ec,hS0⟩ fun⟨s,hF⟩ a w ⟨S,ids,hS⟩=>?_
    refine wpIn_mono (sP jF c (m:=⟨w,S⟩) hS (by have:=hr s.1 s.2 hF;rw [iL]at this;exact this)) fun e a' w' h'=>?_
    obtain⟨σ',S',aO,h1,h2⟩:=h'
    cases e with
    |normal =>
      obtain⟨x',y',hF',hlt,hm⟩:=E8 nl h2;obtain⟨Da,S2,h5⟩:=nV h1 rfl rfl hm;exact⟨⟨(x',y'),hF'⟩,⟨S2,Da,h5⟩,hlt⟩
    |_=>exact⟨σ',S',aO,h1,h2⟩
 |.rangeFunc ..,_,_,_,_,_,_,h=>h.elim
 |.scope _,_,_,_,_,_,_,h=>h.elim
 |.label _,_,_,_,_,_,_,h=>h.elim
 |.goto _,_,_,_,_,_,_,h=>h.elim
end
mutual
def nf:SV->Bool
 |.loc ..=>false
 |.bT _=>false
 |.wN _=>false
 |.DN ..=>false
 |.sub ..=>false
 |.Ah ..=>false
 |.Ag ..=>false
 |.DF ..=>false
 |.fp cs _=>SQ cs
 |.yN cs=>SQ cs
 |.agg l=>SQ l
 |.jm l=>SQ l
 |.nL _ fs cs=>match SQ fs with
   |true=>SQ cs
   |false=>false
 |.uo _ x=>nf x
 |_=>true
def SQ:List SV->Bool
 |[]=>true
 |s::r=>match nf s with
   |true=>SQ r
   |false=>false
end
section
variable {z:Nat}
mutual
theorem Qz:∀ (s:SV),nf s=true->ren 0 z [] s=s
 |.fp cs _,h=>by rw [ren,rR cs (by rw [nf]at h;exact h)]
 |.agg l,h=>by rw [ren,rR l (by rw [nf]at h;exact h)]
 |.yN l,h=>by rw [ren,rR l (by rw [nf]at h;exact h)]
 |.jm l,h=>by rw [ren,rR l (by rw [nf]at h;exact h)]
 |.nL _ fs cs,h=>by
   rw [nf]at h;split at h
   ·rename_i h1;rw [ren,rR fs h1,rR cs h]
   ·cases h
 |.uo _ x,h=>by rw [ren,Qz x (by rw [nf]at h;exact h)]
 |.loc ..,h=>by simp [nf]at h
 |.bT _,h=>by simp [nf]at h
 |.wN _,h=>by simp [nf]at h
 |.DN ..,h=>by simp [nf]at h
 |.sub ..,h=>by simp [nf]at h
 |.Ah ..,h=>by simp [nf]at h
 |.Ag ..,h=>by simp [nf]at h
 |.DF ..,h=>by simp [nf]at h
 |.v _,_=>rfl
 |.i _,_=>rfl
 |.b _,_=>rfl
 |.w8 _,_=>rfl
 |.w32 _,_=>rfl
 |.jg _,_=>rfl
 |.str _,_=>rfl
 |.av ..,_=>rfl
 |.aW ..,_=>rfl
 |.lH ..,_=>rfl
 |.un,_=>rfl
theorem rR:∀ (l:List SV),SQ l=true->vJ 0 z [] l=l
 |[],_=>rfl
 |s::r,h=>by
   rw [SQ]at h;split at h
   ·rename_i h1;rw [vJ,Qz s h1,rR r h]
   ·cases h
end
end
section
variable {m:Mm} {ids aO:List Value}
theorem X5:Rn' 0 ids.length [] [] ids:=fun i=>by
 have:rn 0 ids.length [] i=i+ids.length:=rfl;rw [this,List.getElem?_eq_none (l:=ids) au]
 rfl
theorem YT {s:SV} {y:Value} (h:nf s=true) (hd:Den m ids s y):Den m [] s y:=Den.kN X5 s (by rw [Qz s h];exact hd)
theorem SN {s:List SV} {y:List Value} (h:SQ s=true) (hd:aC m ids s y):aC m [] s y:=aC.kN X5 s (by rw [rR s h];exact hd)
end
def argE:Nat->List SV->List (Nat×SV)
 |_,[]=>[]
 |k,s::r=>(k,s)::argE (k+1) r
def OT (args:List SV) (H:List (Nat×HB)) (n:Nat):St:={ env:=argE 0 args,gen:=[],kn:=[],heap:=H,nb:=n,n0:=n }
def I9 (E:En) (σ:St):List ResultVar->Option (List SV)
 |[]=>some []
 |.tmp t::r=>match σ.slot [] t,I9 E σ r with
   |some s,some l=>some (s::l)
   |_,_=>none
 |.cell t T::r=>match σ.slot [] t,I9 E σ r with
   |some (.loc i 0),some l=>match G7 E σ T (.loc i 0)with
     |.ok s=>some (s::l)
     |_=>none
   |_,_=>none
def pack:List SV->SV
 |[s]=>s
 |l=>.jm l
def Qi (E:En) (rs:List ResultVar) (Q:SV->St->Prop):Exit->St->Prop
 |.ret,σ=>match I9 E σ rs with
   |some l=>Q (pack l) σ
   |none=>False
 |.normal,σ=>match I9 E σ rs with
   |some l=>Q (pack l) σ
   |none=>False
 |_,_=>False
section
variable {E:En} {C:Cx} {σ:St} {m:Mm} {ids:List Value} {a:Act} {DB:Db E}
def rdR (tmps:Array Value):ResultVar->Sem Value
 |.tmp t=>pure (tmps.getD t undef)
 |.cell a t=>do loadVar t (<- asAddr (tmps.getD a undef))
theorem Ga (hS:Sat C σ m ids a):∀ {rs:List ResultVar} {l:List SV},I9 E σ rs=some l->∃ vs:List Value,aC m ids l vs/\(rs.mapM (rdR a.tmps)).run E.P m.w=.ok vs m.w
 |[],l,h=>by
   simp only [I9,Option.some.injEq]at h;subst h;exact⟨[],by rw [aC],by simp⟩
 |.tmp t::r,l,h=>by
   simp only [I9]at h;split at h
   ·rename_i s l' h1 h2;cases h;obtain⟨_,h3⟩:=hS.toSatF.slot holds_nil h1;obtain⟨vs,h4,h5⟩:=Ga hS h2;exact⟨_::vs,by rw [aC];exact⟨_,_,rfl,h3,h4⟩,by rw [List.mapM_cons];simp [rdR,h5]⟩
   ·cases h
 |.cell t T::r,l,h=>by
   simp only [I9]at h;split at h
   ·rename_i i l' h1 h2;split at h
    ·rename_i s hl;cases h;obtain⟨_,h3⟩:=hS.toSatF.slot holds_nil h1;obtain⟨b,v,hb,h6,h7⟩:=Tm hS.toSatH h3 hl;obtain⟨vs,h4,h5⟩:=Ga hS h2;refine⟨v::vs,by rw [aC];exact⟨_,_,rfl,h6,h4⟩,?_⟩
     rw [List.mapM_cons];simp only [rdR,Sem.run_bind,hb,asAddr,Sem.run_pure,Result.andThen_ok,h7 _ (Ext.refl _),h5]
    ·cases h
   ·cases h
theorem res_ok (hS:Sat C σ m ids a) {fn:Func} {l:List SV} (h:I9 E σ fn.results.toList=some l):∃ v,Den m ids (pack l) v/\(results fn a.tmps).run E.P m.w=.ok v m.w:=by
 obtain⟨vs,h1,h2⟩:=Ga hS h
 have hm:(fn.results.mapM (rdR a.tmps)).run E.P m.w=.ok vs.toArray m.w:=by
   rw [Array.mapM_eq_mapM_toList,<- bind_pure_comp,Sem.run_bind,h2];rfl
 have hr:(results fn a.tmps).run E.P m.w=.ok (if h:vs.toArray.size=1 then vs.toArray[0]else .tuple vs.toArray) m.w:=by
   have hu:results fn a.tmps=(do let vs <- fn.results.mapM (rdR a.tmps);pure (if h:vs.size=1 then vs[0]else .tuple vs)):=by
     unfold results
     congr 2
   rw [hu,Sem.run_bind,hm];rfl
 refine⟨_,?_,hr⟩;have hl:=h1.length
 match l,vs,h1 with
 |[],[],h1 =>
   show Den m ids (.jm []) (.tuple #[]);rw [Den];exact⟨[],rfl,h1⟩
 |[s],[v],h1=>rw [aC]at h1;obtain⟨u,us,e,h2,_⟩:=h1;cases e;exact h2
 |s::t::r,u::v::q,h1 =>
   have:¬ (u::v::q).toArray.size=1:=by simp
   rw [dif_neg this];show Den m ids (.jm (s::t::r)) _;rw [Den];exact⟨_,rfl,h1⟩
theorem xJ (hm:∀ b,m.S b->b<m.w.heap.size) (hG:lU E.G m) {H:List (Nat×HB)} {args:List SV} {vs:List Value} {f:FuncId} {fn:Func} {c:Code} {N n:Nat} (hn:ids.length=n) (hH:pQ m ids H) (hv:aC m ids args vs)
   (hf:E.P.funcs[f]?=some fn) (hb:fn.body=some c) (hN:fn.ntmps=N) (hl:Nat.ble (len args) N=true) {Q:SV->St->Prop} (h:vc E DB N c (OT args H n) (Qi E fn.results.toList Q)) :
   Calls E.P f vs.toArray m.w fun e w'=>∃ v σ S aO a s,e=.returned v/\Sat ⟨[],N,m.w,HT ids H,m.S,ids,E.G⟩ σ ⟨w',S⟩ aO a/\Den ⟨w',S⟩ aO s v/\Q s σ:=by
 have hlv:=hv.length;have hl:=Nat.le_of_ble_eq_true hl;rw [len_eq]at hl;have hsz:(vs.toArray++Array.replicate (fn.ntmps-vs.toArray.size) undef).size=N:=by simp;omega
 have argG:∀ (as_:List SV) (us:List Value) (k t:Nat) (s:SV),aC m ids as_ us->lk (argE k as_) t=some s->k<=t/\∃ u,us[t-k]?=some u/\Den m ids s u:=by
   intro as_
   induction as_ with
   |nil=>intro us k t s _ h;cases h
   |cons x r ih =>
     intro us k t s hd h;rw [aC]at hd;obtain⟨u,us',rfl,h1,h2⟩:=hd;rw [argE,bG]at h;split at h
     ·rename_i e;subst e;cases h;exact⟨Nat.le_refl _,u,by simp,h1⟩
     ·obtain⟨h3,u',h4,h5⟩:=ih us' (k+1) t s h2 h;refine⟨au,u',?_,h5⟩
      rw [show t-k=(t-(k+1))+1 by omega,List.getElem?_cons_succ]
      exact h4
 have hS0:Sat ⟨[],N,m.w,HT ids H,m.S,ids,E.G⟩ (OT args H n) m ids { tmps:=vs.toArray++Array.replicate (fn.ntmps-vs.toArray.size) undef,defers:=[] }:=by
   refine⟨⟨hn,hH,fun i hb b hi hf=>.inl ⟨i,hb,hi,hf⟩,fun _ h=>h,fun b hb=>⟨hm b hb,.inl hb⟩,(Ext.refl _).mod _,hG,hn,fun _ _=>rfl⟩,hsz,rfl,fun t s hl=>?_,fun t π s hl=>(by cases hl),fun s b hl=>(by cases hl)⟩
   obtain⟨_,u,h1,h2⟩:=argG args vs 0 t s hv hl;rw [Nat.sub_zero]at h1;have hlt:=(List.getElem?_eq_some_iff.1 h1).1;refine⟨by show t<N;omega,?_⟩
   rw [Array.getD_eq_getD_getElem?,Array.getElem?_append,if_pos (by simpa using hlt)]
   simp only [List.getElem?_toArray,h1,Option.getD_some];exact h2
 refine calls_of_wp hf hb (wpIn_wide.1 (wpIn_mono (sP (ro:=none) rfl c hS0 h) fun e a' w' h'=>?_))
 obtain⟨σ,S,aO,h1,h2⟩:=h'
 have key:(match I9 E σ fn.results.toList with
   |some l=>Q (pack l) σ
   |none=>False)->a'.defers=[]/\∃ v,(results fn a'.tmps).run E.P w'=.ok v w'/\∃ v' σ S aO a s,Ending.returned v=.returned v'/\Sat ⟨[],N,m.w,HT ids H,m.S,ids,E.G⟩ σ ⟨w',S⟩ aO a/\Den ⟨w',S⟩ aO s v'/\Q s σ:=fun h=>by
   split at h
   ·rename_i l hl;obtain⟨v,h3,h4⟩:=res_ok h1 hl;exact⟨h1.defers,v,h4,v,σ,S,aO,a',_,rfl,h1,h3,h⟩
   ·exact h.elim
 cases e with
 |ret=>exact key h2
 |normal=>exact key h2
 |_=>exact h2.elim
structure je (E:En) where
 f:FuncId
 fn:Func
 c:Code
 N:Nat
 rs:List ResultVar
 hf:E.P.funcs[f]?=some fn
 hb:fn.body=some c
 hN:fn.ntmps=N
 hr:fn.results.toList=rs
 ok:dA E.P f
def Rm (fn:Func):Code:=match fn.body with
 |some c=>c
 |none=>.skip
theorem body_of {fn:Func} (h:fn.body.isSome=true):fn.body=some (Rm fn):=by
 unfold Rm
 cases hb:fn.body with
 |none=>rw [hb]at h;cases h
 |some c=>rfl
@[reducible] def je.of {E:En} (f:FuncId) (fn:Func) (hf:E.P.funcs[f]?=some fn) (hs:fn.body.isSome=true) (ok:dA E.P f):je E:=⟨f,fn,Rm fn,fn.ntmps,fn.results.toList,hf,body_of hs,rfl,rfl,ok⟩
def icI (E:En) (D:Db E) (I:je E) (args:List SV) (σ:St) (K:SV->St->Prop):Prop:=match Nat.ble (len args) I.N with
 |true=>kV (OT args σ.heap σ.nb) fun σ1=>vc E D I.N I.c σ1 (Qi E I.rs K)
 |false=>False
def icC (E:En) (D:Db E) (I:je E) (f:FuncId):Option (List SV->St->(SV->St->Prop)->Prop):=match Nat.beq I.f f with
 |true=>some (icI E D I)
 |false=>D.ic f
theorem icC_ok (D:Db E) (I:je E):Wz E (icC E D I):=by
 intro f g hg args σ K m ids vs hG hm hn hH hv h;unfold icC at hg;split at hg
 ·rename_i hb;cases hg;have hb:=dI hb;subst hb;unfold icI at h;split at h
  ·rename_i hl;rw [iL]at h;refine⟨I.ok,(xJ (Q:=K) hm hG hn hH hv I.hf I.hb I.hN hl (by rw [I.hr];exact h)).mono fun e w' ⟨v,σ',S,aO,a,s,he,hS,hd,hK⟩=>?_⟩
   have hmod:=hS.mod;exact⟨v,S,aO,s,σ',he,hK,hmod,⟨fun b hb=>⟨hS.S0 b hb,hmod.block b (hm b hb) fun⟨i,hb0,hi,hf0⟩=>hH.vG i hb0 b hi hf0 hb⟩,hmod.size⟩,hS.S,fun i hi=>by rw [hS.pre i (by have:=hS.n0;simp only at this;omega)],hS.len,hS.heap,fun b ⟨i,hb0,hi,hf0⟩=>hS.low i hb0 b hi hf0,hd⟩
  ·cases h
 ·exact D.ok f g hg args σ K m ids vs hG hm hn hH hv h
structure Wk (E:En) where
 f:FuncId
 app:List SV->(SV->Prop)->Prop
 fn:dA E.P f
 ok:∀ args (m:Mm) (ids vs:List Value) (K:SV->Prop),lU E.G m->(∀ b,m.S b->b<m.w.heap.size)->aC m ids args vs->app args K ->
   Calls E.P f vs.toArray m.w fun e w'=>∃ v S' s,e=.returned v/\K s/\Ext m.w w'/\m.le ⟨w',S'⟩/\(∀ b,S' b->b<w'.heap.size/\(m.S b\/m.w.heap.size<=b))/\Den ⟨w',S'⟩ [] s v
def wk {α:Type} (P:α->Prop) (g:α->SV) (K:SV->Prop):Prop:=∀ x:α,P x->K (g x)
def wkO {α:Type} (pre:Prop) (P:α->Prop) (g:α->SV) (K:SV->Prop):Prop:=Ob pre/\∀ x:α,P x->K (g x)
def st0 (σ:St):St:={ env:=[],gen:=[],kn:=[],heap:=σ.heap,nb:=σ.nb,n0:=σ.nb }
def icW (E:En) (W:Wk E) (args:List SV) (σ:St) (K:SV->St->Prop):Prop:=W.app (vwL (oZ (st0 σ) (Lu (st0 σ) args)) args) fun s=>K s (oZ (st0 σ) (Lu (st0 σ) args))
def icCW (E:En) (D:Db E) (W:Wk E) (f:FuncId):Option (List SV->St->(SV->St->Prop)->Prop):=match Nat.beq W.f f with
 |true=>some (icW E W)
 |false=>D.ic f
theorem icCW_ok (D:Db E) (W:Wk E):Wz E (icCW E D W):=by
 intro f g hg args σ K m ids vs hG hm hn hH hv h;unfold icCW at hg;split at hg
 ·rename_i hb;cases hg;have hb:=dI hb;subst hb;unfold icW at h
  have hS0:Sat ⟨[],0,m.w,HT ids σ.heap,m.S,ids,E.G⟩ (st0 σ) m ids { tmps:=#[],defers:=[] } :=
    ⟨⟨hn,hH,fun i hb b hi hf=>.inl ⟨i,hb,hi,hf⟩,fun _ h=>h,fun b hb=>⟨hm b hb,.inl hb⟩,(Ext.refl _).mod _,hG,hn,fun _ _=>rfl⟩,rfl,rfl,fun t s hl=>(by cases hl),fun t π s hl=>(by cases hl),fun s b hl=>(by cases hl)⟩
  obtain⟨S1,h1,h2⟩:=hS0.oZ (Lu (st0 σ) args);refine⟨W.fn,(W.ok _ ⟨m.w,S1⟩ ids vs _ h2.oH (fun b hb=>(h2.S b hb).1) (KU h2 (aC.le h1 args hv)) h).mono fun e w' ⟨v,S',s,he,hK,hx,hle,hS',hd⟩=>?_⟩
  have hS:=h2.grow hx hle hS';have hmod:=hS.mod;have hd2:=Den.app (ids:=[]) ids s hd;exact⟨v,S',ids,s,_,he,hK,hmod,⟨fun b hb=>⟨hS.S0 b hb,hmod.block b (hm b hb) fun⟨i,hb0,hi,hf0⟩=>hH.vG i hb0 b hi hf0 hb⟩,hmod.size⟩,hS.S,fun i _=>rfl,hS.len,hS.heap,fun b ⟨i,hb0,hi,hf0⟩=>hS.low i hb0 b hi hf0,by simpa using hd2⟩
 ·exact D.ok f g hg args σ K m ids vs hG hm hn hH hv h
def Y6 {E:En} (facts:List (Fact E)):List (Wk E)->Db E
 |[]=>⟨facts,fun _=>none,fun _ _ h=>by cases h⟩
 |W::r=>⟨facts,icCW E (Y6 facts r) W,icCW_ok (Y6 facts r) W⟩
def QC {E:En} (facts:List (Fact E)) (ws:List (Wk E)):List (je E)->Db E
 |[]=>Y6 facts ws
 |I::r=>⟨facts,icC E (QC facts ws r) I,icC_ok (QC facts ws r) I⟩
theorem bs:(∀ n:Nat,(n:Int).toNat=n)/\(∀ (p:Prop) [Decidable p],(decide p=true)=p)/\(∀ (p:Prop) [Decidable p],(decide p=false) = ¬ p)/\(∀ a b:Bool,((a&&b)=true)=(a=true/\b=true))/\(∀ a b:Bool,((a||b)=true)=(a=true\/b=true)) /\
   (∀ a:Bool,((!a)=true)=(a=false))/\(∀ a:Bool,((!a)=false)=(a=true))/\(∀ a b:Bool,((a&&b)=false)=(a=false\/b=false))/\(∀ a b:Bool,((a||b)=false)=(a=false/\b=false))/\((true=true)=True)/\((false=false)=True)/\((true=false)=False)/\((false=true)=False) /\
   (∀ p:Prop,(True/\p)=p)/\(∀ p:Prop,(p/\True)=p)/\(∀ p:Prop,(False/\p)=False)/\(∀ p:Prop,(p/\False)=False)/\(∀ p:Prop,(True\/p)=True)/\(∀ p:Prop,(p\/True)=True)/\(∀ p:Prop,(False\/p)=p)/\(∀ p:Prop,(p\/False)=p)/\(∀ p:Prop,(True->p)=p)/\(∀ p:Prop,(False->p)=True) :=
 ⟨Int.toNat_natCast,fun _=>decide_eq_true_eq,fun p _=>propext decide_eq_false_iff_not,Bool.and_eq_true,Bool.or_eq_true,by decide,by decide,by decide,by decide,by decide,by decide,by decide,by decide,true_and,and_true,false_and,and_false,true_or,or_true,false_or,or_false,fun p=>propext ⟨fun h=>h trivial,fun h _=>h⟩,fun p=>propext ⟨fun _=>trivial,fun _ h=>h.elim⟩⟩
theorem gW {α:Type} {v a b:α} {q:Bool} (h:q=true) (e:v=a):v=bif q then a else b:=by rw [h];exact e
theorem gB {α:Type} {v a b:α} {q:Bool} (h:q=false) (e:v=b):v=bif q then a else b:=by rw [h];exact e
theorem jY {α:Type} {v a b:α} {q:Prop} [Decidable q] (h:q) (e:v=a):v=if q then a else b:=by rw [if_pos h];exact e
theorem jZ {α:Type} {v a b:α} {q:Prop} [Decidable q] (h:¬ q) (e:v=b):v=if q then a else b:=by rw [if_neg h];exact e
theorem qV {α:Type} {z a b:α} {q:Bool} (h:q=true) (e:(bif q then a else b)=z):a=z:=by rw [h]at e;exact e
theorem nE {α:Type} {z a b:α} {q:Bool} (h:q=false) (e:(bif q then a else b)=z):b=z:=by rw [h]at e;exact e
theorem wT {α:Type} {z a b:α} {q:Prop} [Decidable q] (h:q) (e:(if q then a else b)=z):a=z:=by rw [if_pos h]at e;exact e
theorem wX {α:Type} {z a b:α} {q:Prop} [Decidable q] (h:¬ q) (e:(if q then a else b)=z):b=z:=by rw [if_neg h]at e;exact e
def know:List SV->Prop
 |[]=>True
 |.i n::r=>lC n/\know r
 |.str t::r=>(t.size:Int)<=9223372036854775807/\know r
 |.aW _ c l::r=>(l.length*BT c<=140737488355328/\l.length<=140737488355328)/\know r
 |_::r=>know r
theorem AY:∀ {args:List SV} {vs:List Value},aC m ids args vs->know args
 |[],_,_=>trivial
 |s::r,vs,h=>by
   rw [aC]at h;obtain⟨u,us,rfl,h1,h2⟩:=h;have ih:=AY h2
   cases s with
   |i n=>rw [Den]at h1;exact⟨h1.2,ih⟩
   |str t=>rw [Den]at h1;exact⟨h1.2,ih⟩
   |aW z c l=>rw [Den]at h1;obtain⟨_,_,_,_,_,h6⟩:=h1;exact⟨⟨h6,jC h6⟩,ih⟩
   |_=>exact ih
theorem aZ {DB:List (Fact E)} {IL:List (je E)} {WL:List (Wk E)} {args:List SV} {s:SV} {f:FuncId} {fn:Func} {c:Code} {N:Nat} (hf:E.P.funcs[f]?=some fn) (hb:fn.body=some c) (hN:fn.ntmps=N) (hl:Nat.ble (len args) N=true) (hna:SQ args=true) (hns:nf s=true)
   (h:know args->kV (OT args [] 0) fun σ=>vc E (QC DB WL IL) N c σ (Qi E fn.results.toList fun s' σ=>IZ (vw (oZ σ (frN σ s')) s') s)) (m:Mm) (ids vs:List Value) (hG:lU E.G m) (hm:∀ b,m.S b->b<m.w.heap.size) (hv:aC m ids args vs) :
   Calls E.P f vs.toArray m.w fun e w'=>∃ v S',e=.returned v/\Ext m.w w'/\m.le ⟨w',S'⟩/\(∀ b,S' b->b<w'.heap.size/\(m.S b\/m.w.heap.size<=b))/\Den ⟨w',S'⟩ [] s v:=by
 have h:=h (AY hv);rw [iL]at h;refine(xJ (ids:=[]) (H:=[]) hm hG rfl ⟨fun i hb hi=>(by cases hi),fun i hb j hb' hi=>(by cases hi),fun i hb b hi=>(by cases hi)⟩ (SN hna hv) hf hb hN hl h).mono fun e w' ⟨v,σ,S,aO,a,s',he,hS,hd,hle⟩=>?_
 obtain⟨S',h1,h2⟩:=hS.oZ (frN σ s');have hT:∀ b,¬ HT [] ([]:List (Nat×HB)) b:=fun b ⟨i,hb,hi,_⟩=>by cases hi
 have hmod:=h2.mod;have hext:Ext m.w w':=⟨hmod.os,hmod.tape,hmod.output,hmod.size,fun k hk=>hmod.block k hk (hT k)⟩
 refine⟨v,S',he,hext,⟨fun b hb=>⟨h2.S0 b hb,hext.block b (hm b hb)⟩,hext.size⟩,fun b hb=>⟨(h2.S b hb).1,?_⟩,?_⟩
 ·rcases(h2.S b hb).2 with q|q|q
  ·exact .inl q
  ·exact absurd q (hT b)
  ·exact .inr q
 ·exact YT hns (CQ _ _ hle (BI h2 (Den.le h1 _ hd)))
theorem calls_wk {DB:List (Fact E)} {IL:List (je E)} {WL:List (Wk E)} {args:List SV} {α:Type} {P:α->Prop} {g:α->SV} {f:FuncId} {fn:Func} {c:Code} {N:Nat} (hf:E.P.funcs[f]?=some fn) (hb:fn.body=some c) (hN:fn.ntmps=N) (hl:Nat.ble (len args) N=true) (hna:SQ args=true) (hns:∀ x,nf (g x)=true)
   (h:know args->kV (OT args [] 0) fun σ=>vc E (QC DB WL IL) N c σ (Qi E fn.results.toList fun s' σ=>∃ x,P x/\IZ (vw (oZ σ (frN σ s')) s') (g x))) (m:Mm) (ids vs:List Value) (K:SV->Prop) (hG:lU E.G m) (hm:∀ b,m.S b->b<m.w.heap.size) (hv:aC m ids args vs) (hK:wk P g K) :
   Calls E.P f vs.toArray m.w fun e w'=>∃ v S' s,e=.returned v/\K s/\Ext m.w w'/\m.le ⟨w',S'⟩/\(∀ b,S' b->b<w'.heap.size/\(m.S b\/m.w.heap.size<=b))/\Den ⟨w',S'⟩ [] s v:=by
 have h:=h (AY hv);rw [iL]at h;refine(xJ (ids:=[]) (H:=[]) hm hG rfl ⟨fun i hb hi=>(by cases hi),fun i hb j hb' hi=>(by cases hi),fun i hb b hi=>(by cases hi)⟩ (SN hna hv) hf hb hN hl h).mono fun e w' ⟨v,σ,S,aO,a,s',he,hS,hd,x,hx,hle⟩=>?_
 obtain⟨S',h1,h2⟩:=hS.oZ (frN σ s');have hT:∀ b,¬ HT [] ([]:List (Nat×HB)) b:=fun b ⟨i,hb,hi,_⟩=>by cases hi
 have hmod:=h2.mod;have hext:Ext m.w w':=⟨hmod.os,hmod.tape,hmod.output,hmod.size,fun k hk=>hmod.block k hk (hT k)⟩
 refine⟨v,S',g x,he,hK x hx,hext,⟨fun b hb=>⟨h2.S0 b hb,hext.block b (hm b hb)⟩,hext.size⟩,fun b hb=>⟨(h2.S b hb).1,?_⟩,?_⟩
 ·rcases(h2.S b hb).2 with q|q|q
  ·exact .inl q
  ·exact absurd q (hT b)
  ·exact .inr q
 ·exact YT (hns x) (CQ _ _ hle (BI h2 (Den.le h1 _ hd)))
def retH (n:Nat) (R:SV->List (Nat×HB)->Nat->Prop) (s:SV) (σ:St):Prop :=
 ∃ (fs:List Nat) (nl:List (Nat×TypeId×Nat)) (s2:SV) (H2:List (Nat×HB)) (r:List Nat),R s2 H2 (n+len r)/\kV (oZ (pF nl σ) fs) fun σ1=>IZ (vw σ1 s) (ren n σ1.nb r s2)/\meets n r σ1 { env:=[],gen:=[],kn:=[],heap:=H2,nb:=n+len r,n0:=n }
theorem dG {DB:List (Fact E)} {IL:List (je E)} {WL:List (Wk E)} {n:Nat} {args:List SV} {H:List (Nat×HB)} {R:SV->List (Nat×HB)->Nat->Prop} {f:FuncId} {fn:Func} {c:Code} {N:Nat} (hf:E.P.funcs[f]?=some fn) (hb:fn.body=some c) (hN:fn.ntmps=N) (hl:Nat.ble (len args) N=true) (hfn:dA E.P f)
   (h:know args->kV (OT args H n) fun σ=>vc E (QC DB WL IL) N c σ (Qi E fn.results.toList (retH n R))):HC E f n args H R:=by
 refine⟨hfn,fun m ids vs hG hm hn hH hv=>?_⟩
 have h0:=h (AY hv);rw [iL]at h0;refine(xJ hm hG hn hH hv hf hb hN hl h0).mono fun e w' ⟨v,σ,S,aO,a,s',he,hS,hd,fs,nl,s2,H2,r,hR,hle⟩=>?_
 rw [iL]at hle;obtain⟨hle,hmt⟩:=hle;obtain⟨zT,S1,k1,k2,k3⟩:=Er nl hS;have hd:=k3 _ _ hd;obtain⟨S',h1,h2⟩:=k1.oZ fs;obtain⟨Da,h3,hrr⟩:=GY h2 rfl rfl hmt;have hlen:Da.length=n+len r:=h3.len;have hmod:=h3.mod;refine⟨v,S',Da,s2,H2,he,by rw [hlen];exact hR,hmod,⟨fun b hb=>⟨h3.S0 b hb,hmod.block b (hm b hb) fun⟨i,hb0,hi,hf0⟩=>hH.vG i hb0 b hi hf0 hb⟩,hmod.size⟩,h3.S,fun i hi=>h3.pre i hi,au,h3.heap,fun b ⟨i,hb0,hi,hf0⟩=>h3.low i hb0 b hi hf0,?_⟩
 exact Den.kN hrr s2 (CQ _ _ hle (BI h2 (Den.le h1 _ hd)))
end
mutual
def coe:SV->SV->SV
 |.aW _ c _,s=>match s with
   |.v (.slice none 0 0)=>.aW (some true) c []
   |s=>s
 |.agg p,s=>match s with
   |.agg l=>.agg (Ia p l)
   |s=>s
 |.fp p _,s=>match s with
   |.fp l o=>.fp (Ia p l) o
   |s=>s
 |.yN p,s=>match s with
   |.yN l=>.yN (Ia p l)
   |s=>s
 |.nL _ p q,s=>match s with
   |.nL f a b=>.nL f (Ia p a) (Ia q b)
   |s=>s
 |_,s=>s
def Ia:List SV->List SV->List SV
 |[],l=>l
 |p::r,l=>match l with
   |[]=>[]
   |s::q=>coe p s::Ia r q
end
section
variable {m:Mm} {ids:List Value}
mutual
theorem coe_den:∀ (p s:SV) {y:Value},Den m ids s y->Den m ids (coe p s) y:=by
 intro p s y hd;cases p<;>simp only [coe]<;>try exact hd
 case aW =>
   split
   ·cases oM hd;rw [Bn];exact⟨[],⟨by simp,.inl ⟨⟨_,rfl⟩,rfl⟩⟩,eH.nil,fun h=>absurd rfl h,rfl,by simp⟩
   ·exact hd
 case agg p =>
   split
   ·rw [Den]at hd ⊢;obtain⟨us,h1,h2⟩:=hd;exact⟨us,h1,oN p _ h2⟩
   ·exact hd
 case fp p _ =>
   split
   ·rw [Den]at hd ⊢;obtain⟨b,q,us,h1,h2,h3,h4⟩:=hd;exact⟨b,q,us,h1,h2,h3,oN p _ h4⟩
   ·exact hd
 case yN p =>
   split
   ·rw [Den]at hd ⊢;obtain⟨b,q,us,h1,h0,h2,h3,h4⟩:=hd;exact⟨b,q,us,h1,h0,h2,h3,oN p _ h4⟩
   ·exact hd
 case nL f p q =>
   split
   ·rw [Den]at hd ⊢;obtain⟨us,vs,h1,h2,h3⟩:=hd;exact⟨us,vs,h1,oN p _ h2,oN q _ h3⟩
   ·exact hd
theorem oN:∀ (p l:List SV) {us:List Value},aC m ids l us->aC m ids (Ia p l) us:=by
 intro p l us hd
 cases p with
 |nil=>simp only [Ia];exact hd
 |cons p r =>
   simp only [Ia]
   cases l with
   |nil=>exact hd
   |cons s q =>
     rw [aC]at hd ⊢;obtain⟨u,us',h1,h2,h3⟩:=hd;exact⟨u,us',h1,coe_den p s h2,oN r q h3⟩
end
end
@[reducible] def Fact.co {E:En} (p:List SV) (F:Fact E):Fact E:=⟨F.f,fun args=>F.app (Ia p args),F.fn,fun args m ids vs hG hm hv=>F.ok _ m ids vs hG hm (oN p args hv)⟩
@[reducible] def Wk.co {E:En} (p:List SV) (W:Wk E):Wk E:=⟨W.f,fun args=>W.app (Ia p args),W.fn,fun args m ids vs K hG hm hv=>W.ok _ m ids vs K hG hm (oN p args hv)⟩
theorem gK {E:En} {DB:Db E} {N:Nat} {a:Code} {σ:St} {K:Exit->St->Prop} (h:∀ K',K=K'->kV σ fun σ1=>vc E DB N a σ1 K'):kV σ fun σ1=>vc E DB N a σ1 K:=h K rfl
theorem yF {K K':Exit->St->Prop} {e:Exit} {σ:St} (h:K=K') (H:K e σ):K' e σ:=h▸H
theorem bc_ {G:Prop} (h:¬ G->False):G:=Classical.byContradiction h
end Go.SX
namespace Go.SX
open Nat renaming eq_of_beq_eq_true -> dI
theorem iK {s t:SV} (h:s=t):IZ s t:=h▸Zq s
end Go.SX
namespace Go.SX
open Nat renaming eq_of_beq_eq_true -> dI
open Go.XK Go.RowKit
mutual
def eqZ:Nat->Value->Value->Bool
 |0,_,_=>false
 |_+1,.int k n,.int k' n'=>Nat.beq (ikN k) (ikN k')&&decide (n=n')
 |_+1,.bool a,.bool b=>decide (a=b)
 |_+1,.string a,.string b=>Nat.beq a.size 0&&Nat.beq b.size 0
 |_+1,.slice none 0 0,.slice none 0 0=>true
 |_+1,.pointer none,.pointer none=>true
 |_+1,.map none,.map none=>true
 |_+1,.nilFunc,.nilFunc=>true
 |_+1,.nilIface,.nilIface=>true
 |n+1,.agg a,.agg b=>eqZL n a.toList b.toList
 |n+1,.tuple a,.tuple b=>eqZL n a.toList b.toList
 |_,_,_=>false
def eqZL:Nat->List Value->List Value->Bool
 |_,[],[]=>true
 |0,_,_=>false
 |n+1,a::r,b::q=>eqZ n a b&&eqZL n r q
 |_,_,_=>false
end
mutual
theorem eqZ_ok:∀ (n:Nat) {a b:Value},eqZ n a b=true->a=b:=by
 intro n a b h;unfold eqZ at h;split at h
 ·cases h
 ·rw [Bool.and_eq_true]at h;rw [TH h.1,of_decide_eq_true h.2]
 ·rw [of_decide_eq_true h]
 ·rename_i a b;rw [Bool.and_eq_true]at h;have e1:a=ByteArray.empty:=ByteArray.size_eq_zero_iff.1 (dI h.1);have e2:b=ByteArray.empty:=ByteArray.size_eq_zero_iff.1 (dI h.2);rw [e1,e2]
 ·rfl
 ·rfl
 ·rfl
 ·rfl
 ·rfl
 ·rw [Array.ext' (MJ _ h)]
 ·rw [Array.ext' (MJ _ h)]
 ·cases h
theorem MJ:∀ (n:Nat) {a b:List Value},eqZL n a b=true->a=b:=by
 intro n a b h;unfold eqZL at h;split at h
 ·rfl
 ·cases h
 ·rw [Bool.and_eq_true]at h;rw [eqZ_ok _ h.1,MJ _ h.2]
 ·cases h
end
def eqFs:List (Nat×TypeId)->List (Nat×TypeId)->Bool
 |[],[]=>true
 |(a,b)::r,(c,d)::q=>Nat.beq a c&&(Nat.beq b d&&eqFs r q)
 |_,_=>false
theorem Ue:∀ {a b:List (Nat×TypeId)},eqFs a b=true->a=b
 |[],[],_=>rfl
 |(a,b)::r,(c,d)::q,h=>by
   simp only [eqFs,Bool.and_eq_true]at h;rw [dI h.1,dI h.2.1,Ue h.2.2]
 |[],_::_,h=>by cases h
 |_::_,[],h=>by cases h
def ZB (P:Program) (T:TypeId) (k:Kn):Bool:=match P.underlying T,k with
 |some .bool,.bool=>true
 |some (.int k),.int k'=>Nat.beq (ikN k) (ikN k')
 |some .string,.str=>true
 |some (.slice e),.slice e'=>Nat.beq e e'
 |some (.array n e),.arr n' e'=>Nat.beq n n'&&Nat.beq e e'
 |some (.struct F),.aV fs=>eqFs (F.toList.map (fun f=>(f.offset,f.type))) fs&&F.toList.all fun f=>(P.info? f.type).isSome
 |some (.map k v),.map k' v'=>Nat.beq k k'&&Nat.beq v v'
 |some (.interface _),.iface=>true
 |some (.struct _),.Ja=>false
 |some (.array ..),.Ja=>false
 |some (.interface _),.Ja=>false
 |some _,.Ja=>true
 |_,_=>false
theorem ZA {P:Program} {T:TypeId} {k:Kn} (h:ZB P T k=true):Jp P T k:=by
 unfold ZB at h;split at h
 ·assumption
 ·rename_i hu;unfold Jp;rw [hu,TH h]
 ·assumption
 ·rename_i hu;unfold Jp;rw [hu,dI h]
 ·rename_i hu;rw [Bool.and_eq_true]at h;unfold Jp;rw [hu,dI h.1,dI h.2]
 ·rename_i hu;rw [Bool.and_eq_true]at h;exact⟨_,hu,Ue h.1,h.2⟩
 ·rename_i hu;rw [Bool.and_eq_true]at h;unfold Jp;rw [hu,dI h.1,dI h.2]
 ·rename_i hu;exact⟨_,hu⟩
 ·cases h
 ·cases h
 ·cases h
 ·rename_i D h1 h2 h3 hu;unfold Jp;rw [hu];cases D<;>first|rfl|exact absurd rfl (h1 _)|exact absurd rfl (h2 _ _)|exact absurd rfl (h3 _)
 ·cases h
def Xz (P:Program) (T:TypeId) (i:Jj):Bool:=ZB P T i.kn&&((match P.info? T with
 |some j=>(match j.zero with
   |some z=>eqZ 300 z i.z
   |none=>false)&&(Nat.beq j.size i.size&&Nat.beq j.bytes i.bytes)
 |none=>false)&&(Nat.beq i.z.cells.size i.size&&i.eq.isEmpty))
theorem Xy {P:Program} {T:TypeId} {i:Jj} (h:Xz P T i=true):TyOK P T i:=by
 simp only [Xz,Bool.and_eq_true]at h;obtain⟨h1,h2,h3,h4⟩:=h;refine⟨ZA h1,?_,dI h3,fun hn=>absurd (List.isEmpty_iff.1 h4) hn⟩
 split at h2
 ·rename_i j hj;rw [Bool.and_eq_true,Bool.and_eq_true]at h2;split at h2
  ·rename_i z hz;unfold Inf;rw [hj,Option.map_some,hz,eqZ_ok _ h2.1,dI h2.2.1,dI h2.2.2]
  ·cases h2.1
 ·cases h2
def vQ.chk (P:Program):vQ->Bool
 |.lf=>true
 |.nd l k v r=>l.chk P&&(Xz P k v&&r.chk P)
theorem vQ.Rj {P:Program}:∀ {b:vQ},b.chk P=true->b.All (TyOK P)
 |.lf,_=>trivial
 |.nd l k v r,h=>by
   simp only [vQ.chk,Bool.and_eq_true]at h;exact⟨vQ.Rj h.1,Xy h.2.1,vQ.Rj h.2.2⟩
def EqT (P:Program) (T:TypeId) (ks:List Nat):Prop:=∀ us vs r,vO ks us vs=some r->EqR P .eql T us vs r/\EqR P .neq T us vs (!r)
def tyI (b:vQ) (sp:List (Nat×List Nat)) (T:TypeId):Option Jj:=match b.get T with
 |some ⟨k,s,y,c,z,e⟩=>match lk sp T with
   |some ks=>some ⟨k,s,y,c,z,ks⟩
   |none=>some ⟨k,s,y,c,z,e⟩
 |none=>none
theorem tyI_ok {P:Program} {b:vQ} {sp:List (Nat×List Nat)} (hb:b.chk P=true) (hs:∀ T ks,lk sp T=some ks->EqT P T ks) (T:TypeId) (i:Jj) (h:tyI b sp T=some i):TyOK P T i:=by
 unfold tyI at h;split at h
 ·rename_i k s y c z e hg;have q:=vQ.MG (vQ.Rj hb) hg;split at h
  ·rename_i ks hk;cases h;exact⟨q.kn,q.info,q.zc,fun _ us vs r hv=>hs T ks hk us vs r hv⟩
  ·cases h;exact q
 ·cases h
def koT (l:List (Nat×Nat)) (T:TypeId) (c:Nat):Bool:=match l with
 |[]=>false
 |(a,b)::r=>match Nat.beq a T&&Nat.beq b c with
   |true=>true
   |false=>koT r T c
theorem Tw:∀ {l:List (Nat×Nat)} {T:TypeId} {c:Nat},koT l T c=true->(T,c)∈l
 |[],_,_,h=>by cases h
 |(a,b)::r,T,c,h=>by
   simp only [koT]at h;split at h
   ·rename_i hb;rw [Bool.and_eq_true]at hb;rw [dI hb.1,dI hb.2];exact List.mem_cons_self ..
   ·exact List.mem_cons_of_mem _ (Tw h)
def Te (P:Program) (t:TypeId) (n:String) (f:FuncId) (b:Bool):Bool:=match P.info? t with
 |some i=>match i.methods.find? (·.name==n)with
   |some m=>m.path.isEmpty&&decide (m.func=some (f,b))
   |none=>false
 |none=>false
theorem GU {P:Program} {t:TypeId} {n:String} {f:FuncId} {b:Bool} (h:Te P t n f b=true):∃ i m,P.info? t=some i/\i.methods.find? (·.name==n)=some m/\m.path = #[]/\m.func=some (f,b):=by
 unfold Te at h;split at h
 ·rename_i i hi;split at h
  ·rename_i m hm;simp only [Bool.and_eq_true,decide_eq_true_eq,Array.isEmpty_iff]at h;exact⟨i,m,hi,hm,h.1,h.2⟩
  ·cases h
 ·cases h
theorem N9 {P:Program} {t e:TypeId} {n:String} {f:FuncId} (h:Te P t n f true=true) (hu:P.underlying t=some (.pointer e)):IU P t n f none:=by
 intro v w;obtain⟨i,m,h1,h2,h3,h4⟩:=GU h;show(method ((P.types.size+99)+1) t v n).run P w=_;rw [method];simp [typeInfo,h1,h2,h3,h4,follow,receiverAt,run_underlying hu,Place.get]
theorem wrapNil {P:Program} {tys:Array TypeId} {T:TypeId} {a:Addr} {n:String} {w:World}:(Builtin.ssaWrapNilChk_ tys T #[.pointer (some a),strVal "", strVal n]).run P w=.ok (.pointer (some a)) w:=rfl
theorem GR {P:Program} {t e:TypeId} {n:String} {f:FuncId} (h:Te P t n f false=true) (hu:P.underlying t=some (.pointer e)):IU P t n f (some e):=by
 intro b v w hl;obtain⟨i,m,h1,h2,h3,h4⟩:=GU h;show(method ((P.types.size+99)+1) t _ n).run P w=_;rw [method];simp [typeInfo,h1,h2,h3,h4,follow,receiverAt,run_underlying hu,Place.get,wrapNil,asAddr,hl]
def mtT:List (Nat×String×FuncId×Option TypeId)->TypeId->String->Option (FuncId×Option TypeId)
 |[],_,_=>none
 |(a,s,r)::l,t,n=>match Nat.beq a t&&decide (s=n)with
   |true=>some r
   |false=>mtT l t n
theorem Ta:∀ {l:List (Nat×String×FuncId×Option TypeId)} {t:TypeId} {n:String} {r:FuncId×Option TypeId},mtT l t n=some r->(t,n,r)∈l
 |[],_,_,_,h=>by cases h
 |(a,s,q)::l,t,n,r,h=>by
   simp only [mtT]at h;split at h
   ·rename_i hb;rw [Bool.and_eq_true,decide_eq_true_eq]at hb;cases h;rw [dI hb.1,hb.2];exact List.mem_cons_self ..
   ·exact List.mem_cons_of_mem _ (Ta h)
def mkEn (P:Program) (b:vQ) (sp:List (Nat×List Nat)) (ko:List (Nat×Nat)) (mt:List (Nat×String×FuncId×Option TypeId)) (G:Nat->Option SV) (hb:b.chk P=true) (hs:∀ T ks,lk sp T=some ks->EqT P T ks) (hk:∀ p∈ko,jO P p.1 (TV p.2)) (hm:P.follows .mixedOrders=true)
   (hM:∀ p∈mt,IU P p.1 p.2.1 p.2.2.1 p.2.2.2):En :=
 ⟨P,tyI b sp,G,koT ko,mtT mt,tyI_ok hb hs,fun _ _ h=>hk _ (Tw h),hm,fun _ _ _ _ h=>hM _ (Ta h)⟩
end Go.SX
namespace Go.SX
open Nat renaming eq_of_beq_eq_true -> dI
abbrev zi:Value:=.int .i64 0
abbrev zs:Value:=.string .empty
abbrev zl:Value:=.slice none 0 0
abbrev zp:Value:=.pointer none
abbrev zb:Value:=.bool false
abbrev zf:Value:=.nilFunc
abbrev tS (e c:Nat):Jj:=⟨.slice e,1,24,c,zl,[]⟩
abbrev tO (z:Value):Jj:=⟨.Ja,1,8,999,z,[]⟩
abbrev tL (k:Nat) (v:Jj):vQ:=.nd .lf k v .lf
def tyT0:vQ:=(.nd (.nd (.nd (.nd (.nd (tL 0 ⟨.Ja,1,0,999,.tuple #[],[]⟩) 1 (tO zf) .lf) 2 ⟨.int .i64,1,8,0,zi,[]⟩ (.nd (tL 3 ⟨.int .i64,1,8,0,zi,[]⟩) 4 ⟨.bool,1,1,2,zb,[]⟩ .lf)) 5 ⟨.int .u8,1,1,3,.int .u8 0,[]⟩ (.nd (.nd (tL 6 ⟨.int .u8,1,1,999,.int .u8 0,[]⟩) 7 ⟨.aV [(0,2),(1,3),(2,4),(3,6)],4,24,999,.agg #[zi,zi,zb,.int .u8 0],[]⟩ .lf) 8 ⟨.aV [(0,2),(1,3),(2,4),(3,6)],4,24,999,.agg #[zi,zi,zb,.int .u8 0],[]⟩ (tL 9 ⟨.str,1,16,1,zs,[]⟩))) 10 ⟨.str,1,16,999,zs,[]⟩ (.nd (.nd (.nd (tL 11 ⟨.str,1,16,999,zs,[]⟩) 12 ⟨.int .u64,1,8,5,.int .u64 0,[]⟩ .lf) 13 ⟨.aV [(0,9),(1,12)],2,24,999,.agg #[zs,.int .u64 0],[]⟩ (tL 14 ⟨.aV [(0,9),(1,12)],2,24,999,.agg #[zs,.int .u64 0],[]⟩)) 15 (tO zp) (.nd (.nd (tL 16 (tO zp)) 17 (tO zp) .lf) 18 ⟨.aV [(0,17)],1,8,999,.agg #[zp],[]⟩ (tL 19 ⟨.aV [(0,17)],1,8,999,.agg #[zp],[]⟩)))) 20 ⟨.iface,1,16,999,.nilIface,[]⟩ (.nd (.nd (.nd (.nd (tL 21 ⟨.int .i32,1,4,999,.int .i32 0,[]⟩) 22 (tS 59 20) .lf) 23 (tS 97 22) (tL 24 (tS 135 24))) 25 (tS 28 25) (.nd (.nd (tL 26 (tS 9 26)) 27 ⟨.aV [(0,3),(1,3),(2,3),(3,3)],4,32,6,.agg #[zi,zi,zi,zi],[]⟩ .lf) 28 ⟨.aV [(0,3),(1,3),(2,3),(3,3)],4,32,6,.agg #[zi,zi,zi,zi],[]⟩ (tL 29 (tS 276 28)))) 30 (tS 140 32) (.nd (.nd (.nd (tL 31 ⟨.aV [(0,9),(1,4),(2,22),(3,23),(4,24),(5,25),(6,25),(7,26),(8,28),(12,29),(13,30)],14,248,33,.agg #[zs,zb,zl,zl,zl,zl,zl,zl,zi,zi,zi,zi,zl,zl],[]⟩) 32 ⟨.aV [(0,9),(1,4),(2,22),(3,23),(4,24),(5,25),(6,25),(7,26),(8,28),(12,29),(13,30)],14,248,33,.agg #[zs,zb,zl,zl,zl,zl,zl,zl,zi,zi,zi,zi,zl,zl],[]⟩ .lf) 33 (tS 3 34) (tL 34 (tS 85 36))) 35 ⟨.aV [(0,33),(1,33),(2,34),(3,3),(4,3),(5,3),(6,3)],7,104,37,.agg #[zl,zl,zl,zi,zi,zi,zi],[]⟩ (.nd (.nd (tL 36 ⟨.aV [(0,33),(1,33),(2,34),(3,3),(4,3),(5,3),(6,3)],7,104,37,.agg #[zl,zl,zl,zi,zi,zi,zi],[]⟩) 37 (tO zf) .lf) 38 (tS 75 39) (tL 39 (tS 137 41))))))
def tyT1:vQ:=(.nd (.nd (.nd (.nd (.nd (tL 41 (tS 61 10)) 42 (tS 63 12) .lf) 43 (tS 133 45) (.nd (tL 44 (tS 129 14)) 45 (tS 88 47) .lf)) 46 (tS 131 18) (.nd (.nd (tL 47 ⟨.aV [(0,41),(1,42),(2,43),(3,44),(4,45),(5,46)],6,144,48,.agg #[zl,zl,zl,zl,zl,zl],[]⟩) 48 ⟨.aV [(0,41),(1,42),(2,43),(3,44),(4,45),(5,46)],6,144,48,.agg #[zl,zl,zl,zl,zl,zl],[]⟩ .lf) 49 (tS 142 50) (tL 50 ⟨.aV [(0,9),(1,4),(2,3),(3,3),(4,3),(5,9),(6,9),(7,3),(8,38),(9,39),(10,23),(11,33),(12,33),(13,40),(14,33),(15,33),(16,3),(17,26),(18,29),(19,48),(25,49)],26,504,51,.agg #[zs,zb,zi,zi,zi,zs,zs,zi,zl,zl,zl,zl,zl,zl,zl,zl,zi,zl,zl,zl,zl,zl,zl,zl,zl,zl],[]⟩))) 51 ⟨.aV [(0,9),(1,4),(2,3),(3,3),(4,3),(5,9),(6,9),(7,3),(8,38),(9,39),(10,23),(11,33),(12,33),(13,40),(14,33),(15,33),(16,3),(17,26),(18,29),(19,48),(25,49)],26,504,51,.agg #[zs,zb,zi,zi,zi,zs,zs,zi,zl,zl,zl,zl,zl,zl,zl,zl,zi,zl,zl,zl,zl,zl,zl,zl,zl,zl],[]⟩ (.nd (.nd (.nd (tL 52 ⟨.int .i64,1,8,0,zi,[]⟩) 53 ⟨.Ja,1,0,999,.tuple #[.agg #[zs,zb,zi,zi,zi,zs,zs,zi,zl,zl,zl,zl,zl,zl,zl,zl,zi,zl,zl,zl,zl,zl,zl,zl,zl,zl],zi],[]⟩ .lf) 54 (tO zf) (tL 55 (tO zf))) 56 (tS 95 8) (.nd (.nd (tL 57 (tS 67 16)) 58 ⟨.aV [(0,9),(1,9),(2,3),(3,3),(4,3),(5,9),(6,56),(7,41),(8,42),(9,44),(10,57),(11,46)],12,216,19,.agg #[zs,zs,zi,zi,zi,zs,zl,zl,zl,zl,zl,zl],[]⟩ .lf) 59 ⟨.aV [(0,9),(1,9),(2,3),(3,3),(4,3),(5,9),(6,56),(7,41),(8,42),(9,44),(10,57),(11,46)],12,216,19,.agg #[zs,zs,zi,zi,zi,zs,zl,zl,zl,zl,zl,zl],[]⟩ (tL 60 ⟨.aV [(0,9),(1,3),(2,3),(3,3)],4,40,9,.agg #[zs,zi,zi,zi],[]⟩)))) 61 ⟨.aV [(0,9),(1,3),(2,3),(3,3)],4,40,9,.agg #[zs,zi,zi,zi],[]⟩ (.nd (.nd (.nd (.nd (tL 62 ⟨.aV [(0,3),(1,3),(2,9),(3,3)],4,40,11,.agg #[zi,zi,zs,zi],[]⟩) 63 ⟨.aV [(0,3),(1,3),(2,9),(3,3)],4,40,11,.agg #[zi,zi,zs,zi],[]⟩ .lf) 64 (tO zf) (tL 65 (tO zf))) 66 ⟨.aV [(0,3),(1,3),(2,9),(3,3),(4,3),(5,28)],9,80,15,.agg #[zi,zi,zs,zi,zi,zi,zi,zi,zi],[]⟩ (.nd (.nd (tL 67 ⟨.aV [(0,3),(1,3),(2,9),(3,3),(4,3),(5,28)],9,80,15,.agg #[zi,zi,zs,zi,zi,zi,zi,zi,zi],[]⟩) 68 ⟨.Ja,1,0,999,.tuple #[.agg #[zs,zb,zl,zl,zl,zl,zl,zl,zi,zi,zi,zi,zl,zl],.agg #[zl,zl,zl,zi,zi,zi,zi]],[]⟩ .lf) 69 (tO zf) (tL 70 ⟨.Ja,1,0,999,.tuple #[zi,zb],[]⟩))) 71 (tO zf) (.nd (.nd (.nd (tL 72 ⟨.aV [(0,3),(1,3),(2,3),(3,3)],4,32,42,.agg #[zi,zi,zi,zi],[]⟩) 73 ⟨.aV [(0,3),(1,3),(2,3),(3,3)],4,32,42,.agg #[zi,zi,zi,zi],[]⟩ .lf) 74 ⟨.aV [(0,9),(1,9),(2,3),(3,3),(4,3),(5,9),(6,9)],7,88,38,.agg #[zs,zs,zi,zi,zi,zs,zs],[]⟩ (tL 75 ⟨.aV [(0,9),(1,9),(2,3),(3,3),(4,3),(5,9),(6,9)],7,88,38,.agg #[zs,zs,zi,zi,zi,zs,zs],[]⟩)) 76 (tO zf) (.nd (.nd (tL 77 (tO zf)) 78 (tS 5 52) .lf) 79 ⟨.aV [(0,32),(14,36),(21,51),(47,78),(48,78),(49,4)],50,912,999,.agg #[zs,zb,zl,zl,zl,zl,zl,zl,zi,zi,zi,zi,zl,zl,zl,zl,zl,zi,zi,zi,zi,zs,zb,zi,zi,zi,zs,zs,zi,zl,zl,zl,zl,zl,zl,zl,zl,zi,zl,zl,zl,zl,zl,zl,zl,zl,zl,zl,zl,zb],[]⟩ (tL 80 ⟨.aV [(0,32),(14,36),(21,51),(47,78),(48,78),(49,4)],50,912,999,.agg #[zs,zb,zl,zl,zl,zl,zl,zl,zi,zi,zi,zi,zl,zl,zl,zl,zl,zi,zi,zi,zi,zs,zb,zi,zi,zi,zs,zs,zi,zl,zl,zl,zl,zl,zl,zl,zl,zi,zl,zl,zl,zl,zl,zl,zl,zl,zl,zl,zl,zb],[]⟩)))))
def tyT2:vQ:=(.nd (.nd (.nd (.nd (.nd (tL 82 (tO zf)) 83 (tO zf) .lf) 84 ⟨.aV [(0,3),(1,3),(2,3),(3,3)],4,32,35,.agg #[zi,zi,zi,zi],[]⟩ (.nd (tL 85 ⟨.aV [(0,3),(1,3),(2,3),(3,3)],4,32,35,.agg #[zi,zi,zi,zi],[]⟩) 86 (tO zf) .lf)) 87 ⟨.aV [(0,3),(1,3),(2,3),(3,9),(4,3),(5,3)],6,56,46,.agg #[zi,zi,zi,zs,zi,zi],[]⟩ (.nd (.nd (tL 88 ⟨.aV [(0,3),(1,3),(2,3),(3,9),(4,3),(5,3)],6,56,46,.agg #[zi,zi,zi,zs,zi,zi],[]⟩) 89 (tO zf) .lf) 90 ⟨.Ja,1,0,999,.tuple #[zs,zb],[]⟩ (tL 91 (tO zf)))) 92 ⟨.aV [(0,3),(1,3),(2,3),(3,3),(4,3)],5,40,53,.agg #[zi,zi,zi,zi,zi],[]⟩ (.nd (.nd (.nd (tL 93 ⟨.aV [(0,3),(1,3),(2,3),(3,3),(4,3)],5,40,53,.agg #[zi,zi,zi,zi,zi],[]⟩) 94 ⟨.aV [(0,3),(1,3),(2,28),(6,3)],7,56,7,.agg #[zi,zi,zi,zi,zi,zi,zi],[]⟩ .lf) 95 ⟨.aV [(0,3),(1,3),(2,28),(6,3)],7,56,7,.agg #[zi,zi,zi,zi,zi,zi,zi],[]⟩ (tL 96 ⟨.aV [(0,9),(1,9),(2,3),(3,4),(4,4)],5,48,21,.agg #[zs,zs,zi,zb,zb],[]⟩)) 97 ⟨.aV [(0,9),(1,9),(2,3),(3,4),(4,4)],5,48,21,.agg #[zs,zs,zi,zb,zb],[]⟩ (.nd (.nd (tL 98 (tO zf)) 99 (tO zf) .lf) 100 ⟨.aV [(0,3),(1,3),(2,33)],3,40,54,.agg #[zi,zi,zl],[]⟩ (tL 101 ⟨.aV [(0,3),(1,3),(2,33)],3,40,54,.agg #[zi,zi,zl],[]⟩)))) 102 ⟨.arr 13 101,39,520,999,.agg #[zi,zi,zl,zi,zi,zl,zi,zi,zl,zi,zi,zl,zi,zi,zl,zi,zi,zl,zi,zi,zl,zi,zi,zl,zi,zi,zl,zi,zi,zl,zi,zi,zl,zi,zi,zl,zi,zi,zl],[]⟩ (.nd (.nd (.nd (.nd (tL 103 ⟨.aV [(0,32)],14,248,55,.agg #[zs,zb,zl,zl,zl,zl,zl,zl,zi,zi,zi,zi,zl,zl],[]⟩) 104 ⟨.aV [(0,32)],14,248,55,.agg #[zs,zb,zl,zl,zl,zl,zl,zl,zi,zi,zi,zi,zl,zl],[]⟩ .lf) 105 (tS 37 999) (tL 106 (tO zp))) 107 ⟨.aV [(0,43),(1,4)],2,32,56,.agg #[zl,zb],[]⟩ (.nd (.nd (tL 108 ⟨.aV [(0,43),(1,4)],2,32,56,.agg #[zl,zb],[]⟩) 109 ⟨.arr 4 3,4,32,57,.agg #[zi,zi,zi,zi],[]⟩ .lf) 110 (tO zf) (tL 111 (tO zf)))) 112 (tO zf) (.nd (.nd (.nd (tL 113 (tO zf)) 114 ⟨.map 3 4,1,8,999,.map none,[]⟩ .lf) 115 (tS 118 59) (tL 116 (tO zf))) 117 ⟨.aV [(0,3),(1,95)],8,64,58,.agg #[zi,zi,zi,zi,zi,zi,zi,zi],[]⟩ (.nd (.nd (tL 118 ⟨.aV [(0,3),(1,95)],8,64,58,.agg #[zi,zi,zi,zi,zi,zi,zi,zi],[]⟩) 119 (tO zf) .lf) 120 (tO zf) (tL 121 (tO zp))))))
def tyT3:vQ:=(.nd (.nd (.nd (.nd (.nd (tL 123 (tO zf)) 124 (tO zf) .lf) 125 (tO zf) (.nd (tL 126 (tO zf)) 127 (tO zp) .lf)) 128 ⟨.aV [(0,3),(1,3),(2,3),(3,9),(4,9),(5,3)],6,64,13,.agg #[zi,zi,zi,zs,zs,zi],[]⟩ (.nd (.nd (tL 129 ⟨.aV [(0,3),(1,3),(2,3),(3,9),(4,9),(5,3)],6,64,13,.agg #[zi,zi,zi,zs,zs,zi],[]⟩) 130 ⟨.aV [(0,3),(1,3),(2,3),(3,3)],4,32,17,.agg #[zi,zi,zi,zi],[]⟩ .lf) 131 ⟨.aV [(0,3),(1,3),(2,3),(3,3)],4,32,17,.agg #[zi,zi,zi,zi],[]⟩ (tL 132 ⟨.aV [(0,3),(1,3)],2,16,44,.agg #[zi,zi],[]⟩))) 133 ⟨.aV [(0,3),(1,3)],2,16,44,.agg #[zi,zi],[]⟩ (.nd (.nd (.nd (tL 134 ⟨.aV [(0,9),(1,9),(2,4),(3,3),(4,3),(5,3),(6,3)],7,72,23,.agg #[zs,zs,zb,zi,zi,zi,zi],[]⟩) 135 ⟨.aV [(0,9),(1,9),(2,4),(3,3),(4,3),(5,3),(6,3)],7,72,23,.agg #[zs,zs,zb,zi,zi,zi,zi],[]⟩ .lf) 136 ⟨.aV [(0,9),(1,9),(2,4),(3,3),(4,3),(5,3)],6,64,40,.agg #[zs,zs,zb,zi,zi,zi],[]⟩ (tL 137 ⟨.aV [(0,9),(1,9),(2,4),(3,3),(4,3),(5,3)],6,64,40,.agg #[zs,zs,zb,zi,zi,zi],[]⟩)) 138 (tS 202 30) (.nd (.nd (tL 139 ⟨.aV [(0,3),(1,9),(2,138),(3,28)],7,80,31,.agg #[zi,zs,zl,zi,zi,zi,zi],[]⟩) 140 ⟨.aV [(0,3),(1,9),(2,138),(3,28)],7,80,31,.agg #[zi,zs,zl,zi,zi,zi,zi],[]⟩ .lf) 141 ⟨.aV [(0,9),(1,9),(2,9),(3,138),(4,3)],5,80,49,.agg #[zs,zs,zs,zl,zi],[]⟩ (tL 142 ⟨.aV [(0,9),(1,9),(2,9),(3,138),(4,3)],5,80,49,.agg #[zs,zs,zs,zl,zi],[]⟩)))) 143 (tO zf) (.nd (.nd (.nd (.nd (tL 144 (tO zf)) 145 (tO zf) .lf) 146 (tO zf) (tL 147 (tO zf))) 148 (tO zf) (.nd (.nd (tL 149 (tO zf)) 150 (tO zf) .lf) 151 (tO zf) (tL 152 (tO zf)))) 153 (tO zf) (.nd (.nd (.nd (tL 154 (tO zf)) 155 (tO zf) .lf) 156 (tO zf) (tL 157 (tO zf))) 158 (tO zf) (.nd (.nd (tL 159 (tO zf)) 160 ⟨.int .u64,1,8,5,.int .u64 0,[]⟩ .lf) 161 (tO zf) (tL 162 (tO zf))))))
def tyT4:vQ:=(.nd (.nd (.nd (.nd (.nd (tL 164 (tO zf)) 165 (tO zf) .lf) 166 (tO zf) (.nd (tL 167 ⟨.map 168 4,1,8,999,.map none,[]⟩) 168 ⟨.arr 2 9,2,32,60,.agg #[zs,zs],[]⟩ .lf)) 169 (tO zf) (.nd (.nd (tL 170 (tO zf)) 171 ⟨.map 9 4,1,8,999,.map none,[]⟩ .lf) 172 (tO zf) (tL 173 (tO zf)))) 174 (tO zf) (.nd (.nd (.nd (tL 175 (tO zf)) 176 (tO zf) .lf) 177 (tO zf) (tL 178 (tO zf))) 179 (tO zf) (.nd (.nd (tL 180 (tO zf)) 181 (tO zf) .lf) 182 (tO zf) (tL 183 (tO zf))))) 184 (tO zf) (.nd (.nd (.nd (.nd (tL 185 (tO zf)) 186 (tO zf) .lf) 187 (tO zf) (tL 188 (tO zf))) 189 (tO zf) (.nd (.nd (tL 190 (tO zf)) 191 (tO zf) .lf) 192 (tO zf) (tL 193 (tO zf)))) 194 (tO zf) (.nd (.nd (.nd (tL 195 (tO zf)) 196 (tO zf) .lf) 197 (tO zf) (tL 198 (tO zf))) 199 (tO zf) (.nd (.nd (tL 200 (tO zf)) 201 ⟨.aV [(0,3),(1,3),(2,3)],3,24,29,.agg #[zi,zi,zi],[]⟩ .lf) 202 ⟨.aV [(0,3),(1,3),(2,3)],3,24,29,.agg #[zi,zi,zi],[]⟩ (tL 203 (tO zf))))))
def tyT5:vQ:=(.nd (.nd (.nd (.nd (.nd (tL 205 (tO zf)) 206 ⟨.map 207 4,1,8,999,.map none,[]⟩ .lf) 207 ⟨.arr 2 9,2,32,60,.agg #[zs,zs],[]⟩ (.nd (tL 208 (tO zf)) 209 (tO zf) .lf)) 210 (tS 294 62) (.nd (.nd (tL 211 (tS 296 64)) 212 (tS 298 66) .lf) 213 (tS 372 68) (tL 214 (tS 379 70)))) 215 (tS 228 72) (.nd (.nd (.nd (tL 216 ⟨.aV [(0,9),(1,210),(2,211),(3,212),(4,213),(5,214),(6,42),(7,44),(8,45),(9,46),(10,215)],11,256,73,.agg #[zs,zl,zl,zl,zl,zl,zl,zl,zl,zl,zl],[]⟩) 217 ⟨.aV [(0,9),(1,210),(2,211),(3,212),(4,213),(5,214),(6,42),(7,44),(8,45),(9,46),(10,215)],11,256,73,.agg #[zs,zl,zl,zl,zl,zl,zl,zl,zl,zl,zl],[]⟩ .lf) 218 (tO zf) (tL 219 (tO zf))) 220 (tO zf) (.nd (.nd (tL 221 (tO zf)) 222 (tO zf) .lf) 223 (tO zf) (tL 224 (tO zf))))) 225 (tO zf) (.nd (.nd (.nd (.nd (tL 226 (tO zf)) 227 ⟨.aV [(0,3),(1,9),(2,138),(3,3)],4,56,71,.agg #[zi,zs,zl,zi],[]⟩ .lf) 228 ⟨.aV [(0,3),(1,9),(2,138),(3,3)],4,56,71,.agg #[zi,zs,zl,zi],[]⟩ (tL 229 (tO zf))) 230 (tO zf) (.nd (.nd (tL 231 ⟨.map 3 3,1,8,999,.map none,[]⟩) 232 (tS 4 74) .lf) 233 (tO zf) (tL 234 (tO zf)))) 235 (tO zf) (.nd (.nd (.nd (tL 236 (tO zf)) 237 (tO zf) .lf) 238 (tO zf) (tL 239 (tO zf))) 240 (tO zf) (.nd (.nd (tL 241 (tO zf)) 242 (tO zf) .lf) 243 ⟨.aV [(0,3),(1,3),(2,3),(3,3),(4,3),(5,3),(6,3)],7,56,75,.agg #[zi,zi,zi,zi,zi,zi,zi],[]⟩ (tL 244 ⟨.aV [(0,3),(1,3),(2,3),(3,3),(4,3),(5,3),(6,3)],7,56,75,.agg #[zi,zi,zi,zi,zi,zi,zi],[]⟩)))))
def tyT6:vQ:=(.nd (.nd (.nd (.nd (.nd (tL 246 ⟨.Ja,1,0,999,.tuple #[.agg #[zi,zi,zi,zi,zi],zb],[]⟩) 247 (tO zf) .lf) 248 (tO zf) (.nd (tL 249 (tO zf)) 250 (tO zf) .lf)) 251 (tO zf) (.nd (.nd (tL 252 (tO zf)) 253 (tO zf) .lf) 254 (tO zf) (tL 255 (tO zf)))) 256 (tO zf) (.nd (.nd (.nd (tL 257 (tO zf)) 258 (tO zf) .lf) 259 (tO zf) (tL 260 (tO zf))) 261 (tO zf) (.nd (.nd (tL 262 (tO zf)) 263 (tO zf) .lf) 264 (tO zf) (tL 265 (tO zf))))) 266 ⟨.int .u64,1,8,5,.int .u64 0,[]⟩ (.nd (.nd (.nd (.nd (tL 267 (tO zp)) 268 (tO zf) .lf) 269 (tO zp) (tL 270 (tO zf))) 271 ⟨.aV [(0,9),(1,9),(2,9),(3,9)],4,64,76,.agg #[zs,zs,zs,zs],[]⟩ (.nd (.nd (tL 272 ⟨.aV [(0,9),(1,9),(2,9),(3,9)],4,64,76,.agg #[zs,zs,zs,zs],[]⟩) 273 ⟨.arr 31 272,124,1984,999,.agg #[zs,zs,zs,zs,zs,zs,zs,zs,zs,zs,zs,zs,zs,zs,zs,zs,zs,zs,zs,zs,zs,zs,zs,zs,zs,zs,zs,zs,zs,zs,zs,zs,zs,zs,zs,zs,zs,zs,zs,zs,zs,zs,zs,zs,zs,zs,zs,zs,zs,zs,zs,zs,zs,zs,zs,zs,zs,zs,zs,zs,zs,zs,zs,zs,zs,zs,zs,zs,zs,zs,zs,zs,zs,zs,zs,zs,zs,zs,zs,zs,zs,zs,zs,zs,zs,zs,zs,zs,zs,zs,zs,zs,zs,zs,zs,zs,zs,zs,zs,zs,zs,zs,zs,zs,zs,zs,zs,zs,zs,zs,zs,zs,zs,zs,zs,zs,zs,zs,zs,zs,zs,zs,zs,zs],[]⟩ .lf) 274 (tO zf) (tL 275 ⟨.aV [(0,9),(1,26)],2,40,27,.agg #[zs,zl],[]⟩))) 276 ⟨.aV [(0,9),(1,26)],2,40,27,.agg #[zs,zl],[]⟩ (.nd (.nd (.nd (tL 277 ⟨.arr 2 3,2,16,77,.agg #[zi,zi],[]⟩) 278 ⟨.map 3 277,1,8,999,.map none,[]⟩ .lf) 279 (tO zf) (tL 280 (tO zf))) 281 (tO zf) (.nd (.nd (tL 282 ⟨.map 9 3,1,8,999,.map none,[]⟩) 283 (tO zf) .lf) 284 (tS 286 79) (tL 285 ⟨.aV [(0,3),(1,3)],2,16,78,.agg #[zi,zi],[]⟩)))))
def tyT7:vQ:=(.nd (.nd (.nd (.nd (.nd (tL 287 (tO zf)) 288 ⟨.Ja,1,0,999,.tuple #[zi,zi,zi],[]⟩ .lf) 289 (tO zf) (.nd (tL 290 (tO zf)) 291 ⟨.aV [(0,217)],11,256,80,.agg #[zs,zl,zl,zl,zl,zl,zl,zl,zl,zl,zl],[]⟩ .lf)) 292 ⟨.aV [(0,217)],11,256,80,.agg #[zs,zl,zl,zl,zl,zl,zl,zl,zl,zl,zl],[]⟩ (.nd (.nd (tL 293 ⟨.aV [(0,9),(1,3),(2,3),(3,3),(4,9),(5,4)],6,64,61,.agg #[zs,zi,zi,zi,zs,zb],[]⟩) 294 ⟨.aV [(0,9),(1,3),(2,3),(3,3),(4,9),(5,4)],6,64,61,.agg #[zs,zi,zi,zi,zs,zb],[]⟩ .lf) 295 ⟨.aV [(0,9),(1,9),(2,4),(3,3),(4,3),(5,3),(6,3),(7,3),(8,3),(9,3)],10,96,63,.agg #[zs,zs,zb,zi,zi,zi,zi,zi,zi,zi],[]⟩ (tL 296 ⟨.aV [(0,9),(1,9),(2,4),(3,3),(4,3),(5,3),(6,3),(7,3),(8,3),(9,3)],10,96,63,.agg #[zs,zs,zb,zi,zi,zi,zi,zi,zi,zi],[]⟩))) 297 ⟨.aV [(0,3),(1,3),(2,3),(3,3),(4,3)],5,40,65,.agg #[zi,zi,zi,zi,zi],[]⟩ (.nd (.nd (.nd (tL 298 ⟨.aV [(0,3),(1,3),(2,3),(3,3),(4,3)],5,40,65,.agg #[zi,zi,zi,zi,zi],[]⟩) 299 (tO zf) .lf) 300 ⟨.Ja,1,0,999,.tuple #[zi,zi],[]⟩ (tL 301 (tO zf))) 302 (tO zf) (.nd (.nd (tL 303 (tO zf)) 304 (tO zf) .lf) 305 (tO zp) (tL 306 ⟨.aV [(0,305),(1,78)],2,32,999,.agg #[zp,zl],[]⟩)))) 307 ⟨.aV [(0,305),(1,78)],2,32,999,.agg #[zp,zl],[]⟩ (.nd (.nd (.nd (.nd (tL 308 ⟨.iface,1,16,999,.nilIface,[]⟩) 309 ⟨.iface,1,16,999,.nilIface,[]⟩ .lf) 310 ⟨.Ja,1,0,999,.tuple #[zi,.nilIface],[]⟩ (tL 311 (tO zf))) 312 (tO zf) (.nd (.nd (tL 313 (tO zf)) 314 (tO zf) .lf) 315 (tO zf) (tL 316 (tO zf)))) 317 (tO zf) (.nd (.nd (.nd (tL 318 (tO zf)) 319 (tO zf) .lf) 320 (tO zf) (tL 321 (tO zf))) 322 (tO zf) (.nd (.nd (tL 323 (tO zf)) 324 (tO zf) .lf) 325 ⟨.arr 25 160,25,200,999,.agg #[.int .u64 0,.int .u64 0,.int .u64 0,.int .u64 0,.int .u64 0,.int .u64 0,.int .u64 0,.int .u64 0,.int .u64 0,.int .u64 0,.int .u64 0,.int .u64 0,.int .u64 0,.int .u64 0,.int .u64 0,.int .u64 0,.int .u64 0,.int .u64 0,.int .u64 0,.int .u64 0,.int .u64 0,.int .u64 0,.int .u64 0,.int .u64 0,.int .u64 0],[]⟩ (tL 326 ⟨.arr 25 160,25,200,999,.agg #[.int .u64 0,.int .u64 0,.int .u64 0,.int .u64 0,.int .u64 0,.int .u64 0,.int .u64 0,.int .u64 0,.int .u64 0,.int .u64 0,.int .u64 0,.int .u64 0,.int .u64 0,.int .u64 0,.int .u64 0,.int .u64 0,.int .u64 0,.int .u64 0,.int .u64 0,.int .u64 0,.int .u64 0,.int .u64 0,.int .u64 0,.int .u64 0,.int .u64 0],[]⟩)))))
def tyT8:vQ:=(.nd (.nd (.nd (.nd (.nd (tL 328 (tS 160 81)) 329 (tO zf) .lf) 330 (tO zf) (.nd (tL 331 (tO zf)) 332 (tO zf) .lf)) 333 (tO zf) (.nd (.nd (tL 334 (tO zf)) 335 (tO zf) .lf) 336 (tO zf) (tL 337 (tO zf)))) 338 (tO zf) (.nd (.nd (.nd (tL 339 ⟨.int .i64,1,8,999,zi,[]⟩) 340 ⟨.Ja,1,0,999,.tuple #[zi,zi],[]⟩ .lf) 341 (tO zf) (tL 342 (tO zf))) 343 (tO zf) (.nd (.nd (tL 344 (tO zf)) 345 (tO zf) .lf) 346 ⟨.int .u32,1,4,4,.int .u32 0,[]⟩ (tL 347 (tO zf))))) 348 (tO zf) (.nd (.nd (.nd (.nd (tL 349 (tO zf)) 350 (tS 33 82) .lf) 351 (tO zf) (tL 352 (tO zf))) 353 (tO zf) (.nd (.nd (tL 354 (tO zf)) 355 (tO zf) .lf) 356 (tO zf) (tL 357 (tO zf)))) 358 (tO zf) (.nd (.nd (.nd (tL 359 (tO zf)) 360 (tO zf) .lf) 361 (tO zf) (tL 362 (tO zf))) 363 (tO zf) (.nd (.nd (tL 364 (tO zf)) 365 (tO zf) .lf) 366 (tO zf) (tL 367 (tO zf))))))
def tyT9:vQ:=(.nd (.nd (.nd (.nd (.nd (tL 369 (tO zf)) 370 (tO zf) .lf) 371 ⟨.aV [(0,9),(1,33)],2,40,67,.agg #[zs,zl],[]⟩ (.nd (tL 372 ⟨.aV [(0,9),(1,33)],2,40,67,.agg #[zs,zl],[]⟩) 373 (tO zf) .lf)) 374 (tO zf) (.nd (.nd (tL 375 (tO zf)) 376 (tO zf) .lf) 377 (tO zf) (tL 378 ⟨.aV [(0,3),(1,3),(2,4)],3,24,69,.agg #[zi,zi,zb],[]⟩))) 379 ⟨.aV [(0,3),(1,3),(2,4)],3,24,69,.agg #[zi,zi,zb],[]⟩ (.nd (.nd (.nd (tL 380 (tO zf)) 381 (tO zf) .lf) 382 (tO zf) (tL 383 (tO zf))) 384 (tO zf) (.nd (.nd (tL 385 (tO zf)) 386 (tO zf) .lf) 387 (tO zf) (tL 388 (tO zf))))) 389 (tO zf) (.nd (.nd (.nd (.nd (tL 390 (tO zf)) 391 (tO zf) .lf) 392 (tO zf) (tL 393 (tO zf))) 394 (tO zf) (.nd (.nd (tL 395 (tO zf)) 396 (tO zf) .lf) 397 (tO zf) (tL 398 (tO zf)))) 399 (tO zf) (.nd (.nd (.nd (tL 400 (tO zf)) 401 (tO zf) .lf) 402 (tO zf) (tL 403 (tO zf))) 404 (tO zp) (.nd (.nd (tL 405 (tO zp)) 406 (tO zf) .lf) 407 (tO zf) (tL 408 (tO zf))))))
def tyT10:vQ:=(.nd (.nd (.nd (.nd (.nd (tL 410 (tO zf)) 411 (tO zf) .lf) 412 (tO zf) (.nd (tL 413 (tO zf)) 414 (tO zf) .lf)) 415 (tO zf) (.nd (.nd (tL 416 (tO zf)) 417 (tO zf) .lf) 418 (tO zf) (tL 419 ⟨.int .u64,1,8,999,.int .u64 0,[]⟩))) 420 (tO zf) (.nd (.nd (.nd (tL 421 (tO zf)) 422 (tO zf) .lf) 423 (tO zf) (tL 424 (tO zf))) 425 (tO zf) (.nd (.nd (tL 426 (tO zf)) 427 (tO zf) .lf) 428 ⟨.aV [(0,350),(1,33),(2,33),(3,33),(4,33),(5,350)],6,144,83,.agg #[zl,zl,zl,zl,zl,zl],[]⟩ (tL 429 ⟨.aV [(0,350),(1,33),(2,33),(3,33),(4,33),(5,350)],6,144,83,.agg #[zl,zl,zl,zl,zl,zl],[]⟩)))) 430 (tO zf) (.nd (.nd (.nd (.nd (tL 431 (tO zp)) 432 (tS 33 82) .lf) 433 ⟨.iface,1,16,999,.nilIface,[]⟩ (tL 434 ⟨.iface,1,16,999,.nilIface,[]⟩)) 435 (tO zf) (.nd (.nd (tL 436 (tO zf)) 437 (tO zf) .lf) 438 (tO zf) (tL 439 (tO zf)))) 440 (tO zf) (.nd (.nd (.nd (tL 442 (tO zf)) 443 ⟨.arr 24 160,24,192,999,.agg #[.int .u64 0,.int .u64 0,.int .u64 0,.int .u64 0,.int .u64 0,.int .u64 0,.int .u64 0,.int .u64 0,.int .u64 0,.int .u64 0,.int .u64 0,.int .u64 0,.int .u64 0,.int .u64 0,.int .u64 0,.int .u64 0,.int .u64 0,.int .u64 0,.int .u64 0,.int .u64 0,.int .u64 0,.int .u64 0,.int .u64 0,.int .u64 0],[]⟩ .lf) 444 ⟨.arr 5 160,5,40,999,.agg #[.int .u64 0,.int .u64 0,.int .u64 0,.int .u64 0,.int .u64 0],[]⟩ (tL 445 (tO zf))) 446 ⟨.arr 25 3,25,200,999,.agg #[zi,zi,zi,zi,zi,zi,zi,zi,zi,zi,zi,zi,zi,zi,zi,zi,zi,zi,zi,zi,zi,zi,zi,zi,zi],[]⟩ (.nd (.nd (tL 447 (tO zp)) 448 (tO zf) .lf) 449 (tO zf) (tL 450 (tO zf))))))
def tyT11:vQ:=(.nd (.nd (.nd (.nd (.nd (tL 452 ⟨.aV [(0,3),(1,3)],2,16,84,.agg #[zi,zi],[]⟩) 453 ⟨.aV [(0,3),(1,3)],2,16,84,.agg #[zi,zi],[]⟩ .lf) 454 (tO zf) (.nd (tL 455 (tS 453 85)) 456 (tO zp) .lf)) 457 (tO zf) (.nd (.nd (tL 458 (tO zf)) 459 (tO zf) .lf) 460 (tO zf) (tL 461 (tO zf)))) 462 (tO zf) (.nd (.nd (.nd (tL 463 ⟨.Ja,1,0,999,.tuple #[.int .u64 0,.int .u64 0],[]⟩) 464 (tO zf) .lf) 465 (tO zf) (tL 466 (tO zf))) 467 (tO zf) (.nd (.nd (tL 468 (tO zf)) 469 (tO zf) .lf) 470 (tO zf) (tL 471 (tO zf))))) 472 (tO zf) (.nd (.nd (.nd (.nd (tL 473 (tO zf)) 474 (tO zf) .lf) 475 (tO zf) (tL 476 (tO zf))) 477 ⟨.Ja,1,0,999,.tuple #[.int .u32 0,.int .u32 0],[]⟩ (.nd (.nd (tL 478 (tO zf)) 479 ⟨.Ja,1,0,999,.tuple #[.int .u64 0,.int .u64 0],[]⟩ .lf) 480 (tO zf) (tL 481 ⟨.aV [(0,17),(1,17),(2,17),(3,9)],4,40,999,.agg #[zp,zp,zp,zs],[]⟩))) 482 ⟨.aV [(0,17),(1,17),(2,17),(3,9)],4,40,999,.agg #[zp,zp,zp,zs],[]⟩ (.nd (.nd (.nd (tL 483 ⟨.arr 0 16,0,0,999,.agg #[],[]⟩) 484 ⟨.aV [(0,483)],0,0,999,.agg #[],[]⟩ .lf) 485 ⟨.aV [(0,483)],0,0,999,.agg #[],[]⟩ (tL 486 ⟨.int .u8,1,1,999,.int .u8 0,[]⟩)) 487 ⟨.int .u8,1,1,999,.int .u8 0,[]⟩ (.nd (.nd (tL 488 (tO zf)) 489 ⟨.int .i32,1,4,999,.int .i32 0,[]⟩ .lf) 490 ⟨.int .i32,1,4,999,.int .i32 0,[]⟩ (tL 491 ⟨.aV [(0,12),(1,12),(2,346),(3,486),(4,5),(5,5),(6,487),(7,488),(8,404),(9,489),(10,490)],11,48,999,.agg #[.int .u64 0,.int .u64 0,.int .u32 0,.int .u8 0,.int .u8 0,.int .u8 0,.int .u8 0,zf,zp,.int .i32 0,.int .i32 0],[]⟩)))))
def Xx:vQ:=(.nd (.nd (.nd tyT0 40 (tS 73 43) (.nd tyT1 81 (tO zf) tyT2)) 122 (tO zf) (.nd tyT3 163 (tO zf) (.nd tyT4 204 (tO zf) tyT5))) 245 (tO zf) (.nd (.nd tyT6 286 ⟨.aV [(0,3),(1,3)],2,16,78,.agg #[zi,zi],[]⟩ (.nd tyT7 327 (tO zf) tyT8)) 368 (tO zf) (.nd tyT9 409 (tO zf) (.nd tyT10 451 (tO zp) tyT11))))
theorem PY:Xx.chk Proofs.Tryz.prog=true:=by kernel_rfl
end Go.SX
namespace Go.SX
open Nat renaming eq_of_beq_eq_true -> dI
open Go.XK Go.RowKit
theorem jO.pair {P:Program} {kt e:TypeId} (h:P.underlying kt=some (.array 2 e)) (he:P.underlying e=some .string) {z:Value} {b:Nat} (hi:Inf P e z 1 b):jO P kt (fun p:ByteArray×ByteArray=>Value.agg #[.string p.1,.string p.2]):=by
 obtain⟨inf,i1,i2,i3,i4⟩:=hi.ex;have hs:∀ w,(sizeOf e).run P w=.ok 1 w:=fun w=>by simp [sizeOf,typeInfo,i1,i3]
 have hp:∀ (a c:ByteArray) (k:Nat) (v:Value) (w:World),(#[Value.string a,Value.string c]:Array Value)[k]?=some v->(part e #[.string a,.string c] k).run P w=.ok v w:=fun a c k v w hk=>by
   simp only [part,isAgg,Sem.run_bind,run_underlying he,Sem.run_pure,Result.andThen_ok];simp [hk]
 have hp0:∀ (a c:ByteArray) (w:World),(part e #[.string a,.string c] 0).run P w=.ok (.string a) w:=fun a c w=>hp a c 0 _ w rfl
 have hp1:∀ (a c:ByteArray) (w:World),(part e #[.string a,.string c] 1).run P w=.ok (.string c) w:=fun a c w=>hp a c 1 _ w rfl
 have hc:∀ (emp:Bool) (n:Nat) (a:ByteArray×ByteArray) (w:World),(Instr.checkKey emp (n+2) kt (.agg #[.string a.1,.string a.2])).run P w=.ok () w:=fun emp n a w=>by
   simp [Instr.checkKey,run_underlying h,run_underlying he,hs,hp0,hp1,List.range',List.forIn_cons]
 have hel:∀ (n:Nat) (a c:ByteArray) (w:World),(Op.equalIn (n+1) e (.string a) (.string c)).run P w=.ok (decide (a=c)) w:=fun n a c w=>by
   simp [Op.equalIn,run_underlying he,bytes_beq]
 have hq:∀ (n:Nat) (a c:ByteArray×ByteArray) (w:World),(Op.equalIn (n+2) kt (.agg #[.string a.1,.string a.2]) (.agg #[.string c.1,.string c.2])).run P w=.ok (decide (a=c)) w:=fun n a c w=>by
   obtain⟨a1,a2⟩:=a;obtain⟨c1,c2⟩:=c;unfold Op.equalIn
   by_cases q1:a1=c1<;>by_cases q2:a2=c2<;>simp [run_underlying h,hs,hp0,hp1,List.range',List.forIn_cons,hel,q1,q2]
 refine jO.asked ⟨_,h,fun a b=>by simp [Instr.sameNow]⟩ (fun emp a w=>hc emp 9998 a w) (fun a b w=>?_) fun a=>?_
 ·exact hq 9998 a b w
 ·simp [Instr.sameBits,bytes_beq]
end Go.SX
