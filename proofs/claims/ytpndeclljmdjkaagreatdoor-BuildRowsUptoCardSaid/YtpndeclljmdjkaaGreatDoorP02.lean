/- A part of the proof (texts Map, RG, Rec, SB, RH, Rec2, SC). -/
import Derived.RangeFuncRecord
import Derived.Test.YtpndeclljmdjkaaGreatDoorP01
set_option linter.all false
set_option maxRecDepth 100000
namespace Go.XK
open List renaming getElem?_eq_getElem -> bZ
open Go.RowKit
section
variable {α:Type}
def jB [DecidableEq α]:List (α×Value)->α->Option (Nat×Value)
 |[],_=>none
 |(a,u)::r,k=>if(k==a)=true then some (0,u)else(jB r k).map fun p=>(p.1+1,p.2)
def D9 [DecidableEq α] (m:List (α×Value)) (k:α):Option Value:=(jB m k).map (·.2)
def GN [DecidableEq α]:List (α×Value)->α->Value->List (α×Value)
 |[],k,v=>[(k,v)]
 |(a,u)::r,k,v=>if(k==a)=true then(k,v)::r else(a,u)::GN r k v
theorem Vx [DecidableEq α] (a:α) (u:Value) (r:List (α×Value)) (k:α):D9 ((a,u)::r) k=if k=a then some u else D9 r k:=by
 unfold D9;rw [show jB ((a,u)::r) k=if(k==a)=true then some (0,u)else(jB r k).map fun p=>(p.1+1,p.2)from rfl]
 by_cases h:k=a
 ·simp [h]
 ·rw [if_neg (by simpa using h),if_neg h]
  cases jB r k<;>rfl
def sM (w:World) (b:Nat) (enc:α->Value) (m:List (α×Value)):Prop:=∃ es clock,w.heap[b]?=some (.map es clock)/\es.toList.map (fun e=>(e.key,e.val))=m.map fun p=>(enc p.1,p.2)
theorem sM.lt {w:World} {b:Nat} {enc:α->Value} {m:List (α×Value)} (h:sM w b enc m):b<w.heap.size:=by
 obtain⟨_,_,h,_⟩:=h;exact(Array.getElem?_eq_some_iff.1 h).1
theorem sM.ext {w w':World} {b:Nat} {enc:α->Value} {m:List (α×Value)} (h:sM w b enc m) (he:Ext w w'):sM w' b enc m:=by
 have hl:=h.lt;obtain⟨es,c,h1,h2⟩:=h;exact⟨es,c,(he.block b hl).trans h1,h2⟩
theorem Mod.map {S:Nat->Prop} {w w':World} {b:Nat} {enc:α->Value} {m:List (α×Value)} (hm:Mod S w w') (h:sM w b enc m) (hn:¬ S b):sM w' b enc m:=by
 have hl:=h.lt;obtain⟨es,c,h1,h2⟩:=h;exact⟨es,c,(hm.block b hl hn).trans h1,h2⟩
theorem Bu.map {x:Nat} {w w':World} {b:Nat} {enc:α->Value} {m:List (α×Value)} (u:Bu x w w') (h:sM w b enc m) (hn:b≠x):sM w' b enc m:=by
 obtain⟨es,c,h1,h2⟩:=h;exact⟨es,c,(u.block b hn).trans h1,h2⟩
theorem HY [DecidableEq α] {D:TypeDesc} {enc:α->Value} (hD:∀ a b,Instr.sameNow D (enc a) (enc b)=some (a==b)) (k:α):∀ (es:List MapEntry) (m:List (α×Value)) (i:Nat),es.map (fun e=>(e.key,e.val))=m.map (fun p=>(enc p.1,p.2)) ->
   Instr.findNow D (enc k) es i=some ((jB m k).map fun p=>(i+p.1,p.2))
 |[],[],i,_=>rfl
 |[],p::m,i,h=>by simp at h
 |e::es,[],i,h=>by simp at h
 |e::es,(a,u)::m,i,h=>by
   simp only [List.map_cons,List.cons.injEq,Prod.mk.injEq]at h;have ih:=HY hD k es m (i+1) h.2;simp only [Instr.findNow,h.1.1,hD,jB]
   cases hk:(k==a)with
   |true=>simp [h.1.2]
   |false =>
     simp only [ih,Bool.false_eq_true,if_false]
     cases jB m k with
     |none=>rfl
     |some q=>simp;omega
theorem modify_eq [DecidableEq α] {enc:α->Value} (k:α) (v:Value):∀ (es:List MapEntry) (m:List (α×Value)) (j:Nat) (u:Value),es.map (fun e=>(e.key,e.val))=m.map (fun p=>(enc p.1,p.2))->jB m k=some (j,u) ->
   (es.modify j fun e=>{ e with key:=enc k,val:=v }).map (fun e=>(e.key,e.val))=(GN m k v).map fun p=>(enc p.1,p.2)
 |[],[],_,_,_,hf=>by cases hf
 |[],p::m,_,_,h,_=>by simp at h
 |e::es,[],_,_,h,_=>by simp at h
 |e::es,(a,q)::m,j,u,h,hf=>by
   simp only [List.map_cons,List.cons.injEq,Prod.mk.injEq]at h;simp only [jB]at hf;unfold GN
   by_cases hk:(k==a)=true
   ·rw [if_pos hk]at hf ⊢;simp only [Option.some.injEq,Prod.mk.injEq]at hf;obtain⟨rfl,rfl⟩:=hf;simp [h.2]
   ·rw [if_neg hk]at hf ⊢
    cases hm:jB m k with
    |none=>rw [hm]at hf;cases hf
    |some r =>
      rw [hm]at hf;simp only [Option.map_some,Option.some.injEq,Prod.mk.injEq]at hf;obtain⟨rfl,rfl⟩:=hf;have ih:=modify_eq k v es m r.1 r.2 h.2 hm;simp only [List.modify_succ_cons,List.map_cons,ih,h.1.1,h.1.2]
theorem Vw [DecidableEq α] {m:List (α×Value)} {k:α} (v:Value) (h:jB m k=none):GN m k v=m++[(k,v)]:=by
 induction m with
 |nil=>rfl
 |cons p r ih =>
   obtain⟨a,u⟩:=p;simp only [jB]at h;unfold GN
   by_cases hk:(k==a)=true
   ·rw [if_pos hk]at h;cases h
   ·rw [if_neg hk]at h ⊢;rw [ih (by cases hm:jB r k with|none=>rfl|some q=>rw [hm]at h;cases h)]
    rfl
end
structure jO (P:Program) (kt:TypeId) {α:Type} [DecidableEq α] (enc:α->Value):Prop where
 chk:∀ (emp:Bool) (a:α) (w:World),(Instr.checkKey emp 10000 kt (enc a)).run P w=.ok () w
 find:∀ (k:α) (es:List MapEntry) (m:List (α×Value)),es.map (fun e=>(e.key,e.val))=m.map (fun p=>(enc p.1,p.2))->∀ w,(Instr.findKey kt (enc k) es).run P w=.ok (jB m k) w
 bits:∀ a,Instr.sameBits 10000 (enc a) (enc a)=true
theorem jO.now {P:Program} {kt:TypeId} {α:Type} [DecidableEq α] {enc:α->Value} (h1:∃ D,P.underlying kt=some D/\(∀ a b,Instr.sameNow D (enc a) (enc b)=some (a==b))/\∀ (emp:Bool) (n:Nat) (a:α) (w:World),(Instr.checkKey emp (n+1) kt (enc a)).run P w=.ok () w)
   (h2:∀ a,Instr.sameBits 10000 (enc a) (enc a)=true):jO P kt enc:=by
 obtain⟨D,hu,hD,hc⟩:=h1;refine⟨fun emp a w=>hc emp 9999 a w,fun k es m h w=>?_,h2⟩
 have:=HY hD k es m 0 h;simp only [Instr.findKey,Sem.run_bind,run_underlying hu,Result.andThen_ok,this];cases jB m k<;>simp
theorem jO.asked {P:Program} {kt:TypeId} {α:Type} [DecidableEq α] {enc:α->Value} (h1:∃ D,P.underlying kt=some D/\∀ a b,Instr.sameNow D (enc a) (enc b)=none) (hc:∀ (emp:Bool) (a:α) (w:World),(Instr.checkKey emp 10000 kt (enc a)).run P w=.ok () w)
   (he:∀ a b w,(Op.equal kt (enc a) (enc b)).run P w=.ok (a==b) w) (h2:∀ a,Instr.sameBits 10000 (enc a) (enc a)=true):jO P kt enc:=by
 obtain⟨D,hu,hD⟩:=h1;refine⟨hc,fun k es m h w=>?_,h2⟩
 have ask:∀ (es:List MapEntry) (m:List (α×Value)) (i:Nat),es.map (fun e=>(e.key,e.val))=m.map (fun p=>(enc p.1,p.2))->(Instr.findAsking kt (enc k) es i).run P w=.ok ((jB m k).map fun p=>(i+p.1,p.2)) w:=by
   intro es
   induction es with
   |nil=>intro m i h;cases m with|nil=>rfl|cons p r=>simp at h
   |cons e es ih =>
     intro m i h
     cases m with
     |nil=>simp at h
     |cons p r =>
       obtain⟨a,u⟩:=p;simp only [List.map_cons,List.cons.injEq,Prod.mk.injEq]at h;simp only [Instr.findAsking,h.1.1,Sem.run_bind,he,Result.andThen_ok,jB]
       cases hk:(k==a)with
       |true=>simp [h.1.2]
       |false =>
         simp only [Bool.false_eq_true,if_false];rw [ih r (i+1) h.2]
         cases jB r k with
         |none=>rfl
         |some q=>simp;omega
 cases es with
 |nil =>
   cases m with
   |nil=>simp [Instr.findKey,run_underlying hu,Instr.findNow,jB]
   |cons p r=>simp at h
 |cons e es =>
   have hn:Instr.findNow D (enc k) (e::es) 0=none:=by
     cases m with
     |nil=>simp at h
     |cons p r =>
       obtain⟨a,u⟩:=p;simp only [List.map_cons,List.cons.injEq,Prod.mk.injEq]at h;simp only [Instr.findNow,h.1.1,hD]
   simp only [Instr.findKey,Sem.run_bind,run_underlying hu,Result.andThen_ok,hn];have:=ask (e::es) m 0 h;rw [this]
   congr 1
   cases jB m k<;>simp
theorem jO.int {P:Program} {kt:TypeId} (h:P.underlying kt=some (.int .i64)):jO P kt (fun n:Int=>Value.int .i64 n) :=
 .now ⟨_,h,fun a b=>by simp [Instr.sameNow],fun emp n a w=>by simp [Instr.checkKey,run_underlying h]⟩ fun a=>by simp [Instr.sameBits]
theorem bytes_beq (a b:ByteArray):@BEq.beq ByteArray ByteArray.instBEq a b=decide (a=b):=by
 obtain⟨a⟩:=a;obtain⟨b⟩:=b;have h:@BEq.beq ByteArray ByteArray.instBEq ⟨a⟩ ⟨b⟩=(a==b):=rfl;rw [h,Bool.eq_iff_iff,beq_iff_eq,decide_eq_true_eq,ByteArray.mk.injEq]
theorem jO.str {P:Program} {kt:TypeId} (h:P.underlying kt=some .string):jO P kt (fun s:ByteArray=>Value.string s) :=
 .now ⟨_,h,fun a b=>by simp only [Instr.sameNow,bytes_beq];rfl,fun emp n a w=>by simp [Instr.checkKey,run_underlying h]⟩ fun a=>by simp only [Instr.sameBits,bytes_beq,decide_true]
section
variable {P:Program} {env:List (Nat×Value)} {w:World} {d:Option Tmp} {ty:TypeId} {pos:String} {af:Array Edge} {g:Option (Nat×Bool)} {α:Type} {enc:α->Value} {m:List (α×Value)} {kt e t:TypeId} {x y:Operand} {b:Nat} {k:α}
theorem run_findKey [DecidableEq α] (hk:jO P kt enc) {es:List MapEntry} (h:es.map (fun e=>(e.key,e.val))=m.map fun p=>(enc p.1,p.2)) (w:World):(Instr.findKey kt (enc k) es).run P w=.ok (jB m k) w:=hk.find k es m h w
theorem FN [DecidableEq α] {z:Value} {size bytes:Nat} (ht:P.underlying t=some (.map kt e)) (hk:jO P kt enc) (hz:Inf P e z size bytes) (hm:sM w b enc m) (ok:Bool) :
   (Instr.lookup t (.map (some b)) (enc k) ok).run P w=.ok (if ok then .tuple #[(D9 m k).getD z,.bool (D9 m k).isSome]else(D9 m k).getD z) w:=by
 obtain⟨es,c,h1,h2⟩:=hm;obtain⟨inf,i1,i2,_,_⟩:=hz.ex;have hck:=hk.chk;have hg:(getObj b).run P w=.ok (.map es c) w:=by simp [getObj,Sem.run,h1]
 have hck2:=hck es.isEmpty k w;have hf:=run_findKey (k:=k) hk h2 w;simp only [Instr.lookup,Sem.run_bind,run_underlying ht,Result.andThen_ok,hg,Sem.run_pure,hck2,hf];unfold D9
 cases jB m k with
 |none =>
   have hzv:(zeroValue e).run P w=.ok z w:=by simp [zeroValue,typeInfo,i1,i2]
   simp only [Sem.run_bind,hzv,Result.andThen_ok,Sem.run_pure];cases ok<;>rfl
 |some q=>cases ok<;>simp
theorem M6.lookup [DecidableEq α] {wc:World} {z:Value} {size bytes:Nat} (ht:P.underlying t=some (.map kt e)) (hk:jO P kt enc) (hz:Inf P e z size bytes) (hx:ev env x=some (.map (some b))) (hy:ev env y=some (enc k)) (hm:sM wc b enc m) :
   M6 P env wc ⟨d,.lookup t x y false,ty,pos,af,g⟩ ((D9 m k).getD z):=fun a N ha w hw=>by
 have hr:=FN (k:=k) ht hk hz (hm.ext hw) false;simp only [execOp,ha.ev hx,ha.ev hy,Sem.run_bind,hr,Result.andThen_ok,Sem.run_pure];exact⟨rfl,Ext.refl _⟩
theorem M6.Zl [DecidableEq α] {wc:World} {z:Value} {size bytes:Nat} (ht:P.underlying t=some (.map kt e)) (hk:jO P kt enc) (hz:Inf P e z size bytes) (hx:ev env x=some (.map (some b))) (hy:ev env y=some (enc k)) (hm:sM wc b enc m) :
   M6 P env wc ⟨d,.lookup t x y true,ty,pos,af,g⟩ (.tuple #[(D9 m k).getD z,.bool (D9 m k).isSome]):=fun a N ha w hw=>by
 have hr:=FN (k:=k) ht hk hz (hm.ext hw) true;simp only [execOp,ha.ev hx,ha.ev hy,Sem.run_bind,hr,Result.andThen_ok,Sem.run_pure];exact⟨rfl,Ext.refl _⟩
theorem yS [DecidableEq α] {v:Value} (ht:P.underlying t=some (.map kt e)) (hk:jO P kt enc) (hm:sM w b enc m) :
   ∃ o,(Instr.mapUpdate t (.map (some b)) (enc k) v).run P w=.ok () (w.putObj b o)/\sM (w.putObj b o) b enc (GN m k v):=by
 have hlt:=hm.lt;obtain⟨es,c,h1,h2⟩:=hm;have hck:=hk.chk;have hg:(getObj b).run P w=.ok (.map es c) w:=by simp [getObj,Sem.run,h1]
 have hck2:=hck false k w;have hf:=run_findKey (k:=k) hk h2 w;have hset:∀ es' c',(setObj b (.map es' c')).run P w=.ok () (w.putObj b (.map es' c')):=fun es' c'=>by simp [setObj,Sem.run,h1,World.putObj]
 cases hq:jB m k with
 |none =>
   rw [hq]at hf;refine⟨.map (es.push { key:=enc k,val:=v,born:=c }) (c+1),?_,_,_,World.putObj_heap_same hlt,?_⟩
   ·simp only [Instr.mapUpdate,Sem.run_bind,run_underlying ht,Result.andThen_ok,hg,hck2,hf,hset]
   ·rw [Vw v hq,Array.toList_push,List.map_append,List.map_append,h2];rfl
 |some p =>
   obtain⟨j,u⟩:=p;rw [hq]at hf
   have hstay:(Instr.keyThatStays (((es[j]?).map (·.key)).getD (enc k)) (enc k)).run P w=.ok (enc k) w:=by
     have hold:((es[j]?).map (·.key)).getD (enc k)=enc k:=by
       have:∀ (l:List MapEntry) (m:List (α×Value)) (j:Nat) (u:Value),l.map (fun e=>(e.key,e.val))=m.map (fun p=>(enc p.1,p.2))->jB m k=some (j,u)->(l[j]?).map (·.key)=some (enc k):=by
         intro l
         induction l with
         |nil=>intro m j u h hf;cases m with|nil=>cases hf|cons p r=>simp at h
         |cons e0 l ih =>
           intro m j u h hf
           cases m with
           |nil=>cases hf
           |cons p r =>
             obtain⟨a,q⟩:=p;simp only [List.map_cons,List.cons.injEq,Prod.mk.injEq]at h;simp only [jB]at hf
             by_cases hka:(k==a)=true
             ·rw [if_pos hka]at hf;simp only [Option.some.injEq,Prod.mk.injEq]at hf;obtain⟨rfl,rfl⟩:=hf;have:k=a:=by simpa using hka
              simp [h.1.1,this]
             ·rw [if_neg hka]at hf
              cases hm2:jB r k with
              |none=>rw [hm2]at hf;cases hf
              |some q2 =>
                rw [hm2]at hf;simp only [Option.map_some,Option.some.injEq,Prod.mk.injEq]at hf;obtain⟨rfl,rfl⟩:=hf;simpa using ih r q2.1 q2.2 h.2 hm2
       have h3:=this es.toList m j u h2 hq;rw [Array.getElem?_toList]at h3;rw [h3];rfl
     rw [hold];simp [Instr.keyThatStays,hk.bits k]
   refine⟨.map (es.modify j fun e=>{ e with key:=enc k,val:=v }) c,?_,_,_,World.putObj_heap_same hlt,?_⟩
   ·simp only [Instr.mapUpdate,Sem.run_bind,run_underlying ht,Result.andThen_ok,hg,hck2,hf,hstay,hset]
   ·rw [Array.toList_modify];exact modify_eq k v es.toList m j u h2 hq
theorem Gi (w:World) (b:Nat) (o:Obj):Bu b w (w.putObj b o):=⟨rfl,rfl,rfl,by simp,fun k hk=>World.putObj_heap_other hk⟩
theorem Stp.mapUpdate [DecidableEq α] {z:Operand} {v:Value} {K:Value->World->Prop} (ht:P.underlying t=some (.map kt e)) (hk:jO P kt enc) (hx:ev env x=some (.map (some b))) (hy:ev env y=some (enc k)) (hz:ev env z=some v) (hm:sM w b enc m)
   (h:∀ w',Bu b w w'->sM w' b enc (GN m k v)->K undef w'):Stp P env w ⟨d,.mapUpdate t x y z,ty,pos,af,g⟩ K:=fun a N ha=>by
 obtain⟨o,hr,hm'⟩:=yS (k:=k) (v:=v) ht hk hm;simp only [execOp,ha.ev hx,ha.ev hy,ha.ev hz,Sem.run_bind,hr,Result.andThen_ok,Sem.run_pure];exact h _ (Gi w b o) hm'
theorem Stp.insert [DecidableEq α] {z:Operand} {v:Value} {K:Value->World->Prop} (ht:P.underlying t=some (.map kt e)) (hk:jO P kt enc) (hx:ev env x=some (.map (some b))) (hy:ev env y=some (enc k)) (hz:ev env z=some v) (hm:sM w b enc m)
   (h:∀ w',Bu b w w'->sM w' b enc (GN m k v)->K undef w'):Stp P env w ⟨d,.insert t x y z,ty,pos,af,g⟩ K:=fun a N ha=>by
 obtain⟨o,hr,hm'⟩:=yS (k:=k) (v:=v) ht hk hm;simp only [execOp,ha.ev hx,ha.ev hy,ha.ev hz,Sem.run_bind,hr,Result.andThen_ok,Sem.run_pure];exact h _ (Gi w b o) hm'
theorem Stp.makeMap {K:Value->World->Prop} (enc:α->Value) (h:∀ w',Ext w w'->w'.heap.size=w.heap.size+1->sM w' w.heap.size enc []->K (.map (some w.heap.size)) w'):Stp P env w ⟨d,.makeMap t none,ty,pos,af,g⟩ K:=fun a N ha=>by
 have hk:=h (w.alloc (.map #[] 0)) (Ext.alloc w _) (by simp) ⟨#[],0,heap_alloc_new w _,rfl⟩
 have hr:(Instr.makeMap t none).run P w=.ok (.map (some w.heap.size)) (w.alloc (.map #[] 0)):=rfl;simp only [execOp,Option.map_none,Sem.run_bind,hr,Result.andThen_ok,Sem.run_pure];exact hk
end
end Go.XK
namespace Go.SX
open List renaming getElem?_eq_getElem -> bZ
open Go.XK Go.RowKit
structure RI where
 α:Type
 K:Nat
 B:Nat
 D:α->List CP
 Z:α
 V:α->Value
 eq:DecidableEq α
 len:∀ x,(D x).length=K
 pos:1<=B
inductive RT
 |lf
 |nd (l:RT) (k:Nat) (v:RI) (r:RT)
@[reducible] def RI0:RI:=⟨Unit,0,1,fun _=>[],(),fun _=>.tuple #[],inferInstance,fun _=>rfl,by decide⟩
@[reducible] def RT.get:RT->Nat->RI
 |.lf,_=>RI0
 |.nd l k v r,c=>match Nat.beq c k with
   |true=>v
   |false=>match Nat.blt c k with
     |true=>l.get c
     |false=>r.get c
inductive Cl:Type 1
 |i
 |b
 |s
 |w8
 |w32
 |jg
 |l (I:RI)
 |z (I:RI)
@[reducible] def Cl.T:Cl->Type
 |.i=>Int
 |.b=>Bool
 |.s=>ByteArray
 |.w8=>UInt8
 |.w32=>UInt32
 |.jg=>UInt64
 |.l I=>List I.α
 |.z I=>List I.α
def Cl.cp:(k:Cl)->k.T->CP
 |.i,x=>.int x
 |.b,x=>.bool x
 |.s,x=>.str x
 |.w8,x=>.w8 x
 |.w32,x=>.w32 x
 |.jg,x=>.jg x
 |.l I,x=>.aW I.K I.B I.D x
 |.z I,x=>.lz I.K I.B I.D x
def Cl.va:(k:Cl)->k.T->Value
 |.i,x=>.int .i64 x
 |.b,x=>.bool x
 |.s,x=>.string x
 |.w8,x=>.int .u8 x.toNat
 |.w32,x=>.int .u32 x.toNat
 |.jg,x=>.int .u64 x.toNat
 |_,_=>.tuple #[]
def Cl.g:Cl->Bool
 |.l _=>false
 |.z _=>false
 |_=>true
@[reducible] def HL:List Cl->Type
 |[]=>Unit
 |k::r=>k.T×HL r
def hcp:(ks:List Cl)->HL ks->List CP
 |[],_=>[]
 |k::r,p=>k.cp p.1::hcp r p.2
def hva:(ks:List Cl)->HL ks->List Value
 |[],_=>[]
 |k::r,p=>k.va p.1::hva r p.2
def hg:List Cl->Bool
 |[]=>true
 |k::r=>match k.g with
   |true=>hg r
   |false=>false
theorem TL:∀ (ks:List Cl) (p:HL ks),(hcp ks p).length=ks.length
 |[],_=>rfl
 |_::r,p=>congrArg (· + 1) (TL r p.2)
structure Iso (α:Type) (ks:List Cl) where
 of ::
 un:α->HL ks
 mk:HL ks->α
 mu:∀ x,mk (un x)=x:=by intro x;rfl
 um:∀ p,un (mk p)=p:=by intro p;rfl
@[reducible] def rF {α:Type} [h:DecidableEq α] (ks:List Cl) (I:Iso α ks) (K B:Nat) (z:α) (hK:ks.length=K:=by rfl) (hB:1<=B:=by decide):RI :=
 ⟨α,K,B,fun x=>hcp ks (I.un x),z,fun x=>match hg ks with
   |true=>.agg (hva ks (I.un x)).toArray
   |false=>.tuple #[],h,fun x=>(TL ks _).trans hK,hB⟩
@[reducible] def vR (I:RI):RI:=⟨List I.α,1,24,fun x=>[.aW I.K I.B I.D x],[],fun _=>.tuple #[],have:=I.eq;inferInstance,fun _=>rfl,by decide⟩
@[reducible] def cRI (k:Cl) (h:DecidableEq k.T) (B:Nat) (z:k.T) (hB:1<=B:=by decide):RI:=⟨k.T,1,B,fun x=>[k.cp x],z,k.va,h,fun _=>rfl,hB⟩
@[reducible] def Uy:RI:=cRI .i inferInstance 8 (0:Int)
@[reducible] def TI1:RI:=cRI .s inferInstance 16 (ByteArray.empty:ByteArray)
@[reducible] def TI2:RI:=cRI .b inferInstance 1 (false:Bool)
@[reducible] def TI3:RI:=cRI .w8 inferInstance 1 (0:UInt8)
@[reducible] def TI4:RI:=cRI .w32 inferInstance 4 (0:UInt32)
@[reducible] def TI5:RI:=cRI .jg inferInstance 8 (0:UInt64)
structure bE where
 Kind:Int
 N:Int
 Off:Int
 Size:Int
 deriving DecidableEq
@[reducible] def TI6:RI:=rF [.i,.i,.i,.i] (.of (fun(x:bE)=>(x.Kind,x.N,x.Off,x.Size,())) (fun(a0,a1,a2,a3,_)=>⟨a0,a1,a2,a3⟩)) 4 32 ⟨0,0,0,0⟩
structure gX where
 At:Int
 Kind:Int
 To:bE
 Add:Int
 deriving DecidableEq
@[reducible] def TI7:RI:=rF [.i,.i,.i,.i,.i,.i,.i] (.of (fun(x:gX)=>(x.At,x.Kind,x.To.Kind,x.To.N,x.To.Off,x.To.Size,x.Add,())) (fun(a0,a1,a2,a3,a4,a5,a6,_)=>⟨a0,a1,⟨a2,a3,a4,a5⟩,a6⟩)) 7 56 ⟨0,0,⟨0,0,0,0⟩,0⟩
@[reducible] def TI8:RI:=vR TI7
structure eU where
 Name:ByteArray
 Kind:Int
 At:Int
 Size:Int
 deriving DecidableEq
@[reducible] def TI9:RI:=rF [.s,.i,.i,.i] (.of (fun(x:eU)=>(x.Name,x.Kind,x.At,x.Size,())) (fun(a0,a1,a2,a3,_)=>⟨a0,a1,a2,a3⟩)) 4 40 ⟨ByteArray.empty,0,0,0⟩
@[reducible] def TI10:RI:=vR TI9
structure fQ where
 gD:Int
 At:Int
 File:ByteArray
 Line:Int
 deriving DecidableEq
@[reducible] def Ru:RI:=rF [.i,.i,.s,.i] (.of (fun(x:fQ)=>(x.gD,x.At,x.File,x.Line,())) (fun(a0,a1,a2,a3,_)=>⟨a0,a1,a2,a3⟩)) 4 40 ⟨0,0,ByteArray.empty,0⟩
@[reducible] def TI12:RI:=vR Ru
structure dW where
 gD:Int
 From:Int
 To:Int
 Name:ByteArray
 File:ByteArray
 Line:Int
 deriving DecidableEq
@[reducible] def Rt:RI:=rF [.i,.i,.i,.s,.s,.i] (.of (fun(x:dW)=>(x.gD,x.From,x.To,x.Name,x.File,x.Line,())) (fun(a0,a1,a2,a3,a4,a5,_)=>⟨a0,a1,a2,a3,a4,a5⟩)) 6 64 ⟨0,0,0,ByteArray.empty,ByteArray.empty,0⟩
@[reducible] def TI14:RI:=vR Rt
structure bQ where
 From:Int
 To:Int
 Name:ByteArray
 Where:Int
 N:Int
 Target:bE
 deriving DecidableEq
@[reducible] def TI15:RI:=rF [.i,.i,.s,.i,.i,.i,.i,.i,.i] (.of (fun(x:bQ)=>(x.From,x.To,x.Name,x.Where,x.N,x.Target.Kind,x.Target.N,x.Target.Off,x.Target.Size,())) (fun(a0,a1,a2,a3,a4,a5,a6,a7,a8,_)=>⟨a0,a1,a2,a3,a4,⟨a5,a6,a7,a8⟩⟩)) 9 80 ⟨0,0,ByteArray.empty,0,0,⟨0,0,0,0⟩⟩
@[reducible] def TI16:RI:=vR TI15
structure iH where
 gD:Int
 From:Int
 To:Int
 Bytes:Int
 deriving DecidableEq
@[reducible] def Rs:RI:=rF [.i,.i,.i,.i] (.of (fun(x:iH)=>(x.gD,x.From,x.To,x.Bytes,())) (fun(a0,a1,a2,a3,_)=>⟨a0,a1,a2,a3⟩)) 4 32 ⟨0,0,0,0⟩
@[reducible] def TI18:RI:=vR Rs
structure aM where
 Obj:ByteArray
 gD:ByteArray
 Kind:Int
 Align:Int
 Size:Int
 Bytes:ByteArray
 Refs:(List gX)
 Marks:(List eU)
 Lines:(List fQ)
 dK:(List dW)
 Vars:(List bQ)
 gy:(List iH)
 deriving DecidableEq
@[reducible] def TI19:RI:=rF [.s,.s,.i,.i,.i,.s,.l TI7,.l TI9,.l Ru,.l Rt,.l TI15,.l Rs] (.of (fun(x:aM)=>(x.Obj,x.gD,x.Kind,x.Align,x.Size,x.Bytes,x.Refs,x.Marks,x.Lines,x.dK,x.Vars,x.gy,())) (fun(a0,a1,a2,a3,a4,a5,a6,a7,a8,a9,a10,a11,_)=>⟨a0,a1,a2,a3,a4,a5,a6,a7,a8,a9,a10,a11⟩)) 12 216 ⟨ByteArray.empty,ByteArray.empty,0,0,0,ByteArray.empty,[],[],[],[],[],[]⟩
@[reducible] def TI20:RI:=vR TI19
structure qo where
 Name:ByteArray
 Version:ByteArray
 Kind:Int
 Weak:Bool
 Own:Bool
 deriving DecidableEq
@[reducible] def TI21:RI:=rF [.s,.s,.i,.b,.b] (.of (fun(x:qo)=>(x.Name,x.Version,x.Kind,x.Weak,x.Own,())) (fun(a0,a1,a2,a3,a4,_)=>⟨a0,a1,a2,a3,a4⟩)) 5 48 ⟨ByteArray.empty,ByteArray.empty,0,false,false⟩
@[reducible] def TI22:RI:=vR TI21
structure jd where
 Name:ByteArray
 Version:ByteArray
 Main:Bool
 Kind:Int
 Node:Int
 Off:Int
 Size:Int
 deriving DecidableEq
@[reducible] def TI23:RI:=rF [.s,.s,.b,.i,.i,.i,.i] (.of (fun(x:jd)=>(x.Name,x.Version,x.Main,x.Kind,x.Node,x.Off,x.Size,())) (fun(a0,a1,a2,a3,a4,a5,a6,_)=>⟨a0,a1,a2,a3,a4,a5,a6⟩)) 7 72 ⟨ByteArray.empty,ByteArray.empty,false,0,0,0,0⟩
@[reducible] def TI24:RI:=vR TI23
@[reducible] def TI25:RI:=vR TI6
@[reducible] def TI26:RI:=vR TI1
structure iQ where
 Name:ByteArray
 Parents:(List ByteArray)
 deriving DecidableEq
@[reducible] def TI27:RI:=rF [.s,.l TI1] (.of (fun(x:iQ)=>(x.Name,x.Parents,())) (fun(a0,a1,_)=>⟨a0,a1⟩)) 2 40 ⟨ByteArray.empty,[]⟩
@[reducible] def TI28:RI:=vR TI27
structure om where
 From:Int
 Size:Int
 To:Int
 deriving DecidableEq
@[reducible] def TI29:RI:=rF [.i,.i,.i] (.of (fun(x:om)=>(x.From,x.Size,x.To,())) (fun(a0,a1,a2,_)=>⟨a0,a1,a2⟩)) 3 24 ⟨0,0,0⟩
@[reducible] def TI30:RI:=vR TI29
structure dZ where
 Node:Int
 From:ByteArray
 kS:(List om)
 Code:bE
 deriving DecidableEq
@[reducible] def TI31:RI:=rF [.i,.s,.l TI29,.i,.i,.i,.i] (.of (fun(x:dZ)=>(x.Node,x.From,x.kS,x.Code.Kind,x.Code.N,x.Code.Off,x.Code.Size,())) (fun(a0,a1,a2,a3,a4,a5,a6,_)=>⟨a0,a1,a2,⟨a3,a4,a5,a6⟩⟩)) 7 80 ⟨0,ByteArray.empty,[],⟨0,0,0,0⟩⟩
@[reducible] def TI32:RI:=vR TI31
structure fZ where
 Name:ByteArray
 Lib:Bool
 Nodes:(List aM)
 Imports:(List qo)
 lQ:(List jd)
 lZ:(List bE)
 oQ:(List bE)
 Needs:(List ByteArray)
 Entry:bE
 fJ:(List iQ)
 Changes:(List dZ)
 deriving DecidableEq
@[reducible] def TI33:RI:=rF [.s,.b,.l TI19,.l TI21,.l TI23,.l TI6,.l TI6,.l TI1,.i,.i,.i,.i,.l TI27,.l TI31] (.of (fun(x:fZ)=>(x.Name,x.Lib,x.Nodes,x.Imports,x.lQ,x.lZ,x.oQ,x.Needs,x.Entry.Kind,x.Entry.N,x.Entry.Off,x.Entry.Size,x.fJ,x.Changes,())) (fun(a0,a1,a2,a3,a4,a5,a6,a7,a8,a9,a10,a11,a12,a13,_)=>⟨a0,a1,a2,a3,a4,a5,a6,a7,⟨a8,a9,a10,a11⟩,a12,a13⟩)) 14 248 ⟨ByteArray.empty,false,[],[],[],[],[],[],⟨0,0,0,0⟩,[],[]⟩
@[reducible] def TI34:RI:=vR Uy
structure fA where
 At:Int
 Kind:Int
 N:Int
 Off:Int
 deriving DecidableEq
@[reducible] def TI35:RI:=rF [.i,.i,.i,.i] (.of (fun(x:fA)=>(x.At,x.Kind,x.N,x.Off,())) (fun(a0,a1,a2,a3,_)=>⟨a0,a1,a2,a3⟩)) 4 32 ⟨0,0,0,0⟩
@[reducible] def TI36:RI:=vR TI35
structure bX where
 Nodes:(List Int)
 Slots:(List Int)
 kY:(List fA)
 Code:Int
 Data:Int
 Zero:Int
 Tls:Int
 deriving DecidableEq
@[reducible] def TI37:RI:=rF [.l Uy,.l Uy,.l TI35,.i,.i,.i,.i] (.of (fun(x:bX)=>(x.Nodes,x.Slots,x.kY,x.Code,x.Data,x.Zero,x.Tls,())) (fun(a0,a1,a2,a3,a4,a5,a6,_)=>⟨a0,a1,a2,a3,a4,a5,a6⟩)) 7 104 ⟨[],[],[],0,0,0,0⟩
structure fB where
 Obj:ByteArray
 gD:ByteArray
 Kind:Int
 At:Int
 Size:Int
 Digest:ByteArray
 Form:ByteArray
 deriving DecidableEq
@[reducible] def TI38:RI:=rF [.s,.s,.i,.i,.i,.s,.s] (.of (fun(x:fB)=>(x.Obj,x.gD,x.Kind,x.At,x.Size,x.Digest,x.Form,())) (fun(a0,a1,a2,a3,a4,a5,a6,_)=>⟨a0,a1,a2,a3,a4,a5,a6⟩)) 7 88 ⟨ByteArray.empty,ByteArray.empty,0,0,0,ByteArray.empty,ByteArray.empty⟩
@[reducible] def TI39:RI:=vR TI38
structure jL where
 Name:ByteArray
 Version:ByteArray
 Main:Bool
 Kind:Int
 At:Int
 Size:Int
 deriving DecidableEq
@[reducible] def TI40:RI:=rF [.s,.s,.b,.i,.i,.i] (.of (fun(x:jL)=>(x.Name,x.Version,x.Main,x.Kind,x.At,x.Size,())) (fun(a0,a1,a2,a3,a4,a5,_)=>⟨a0,a1,a2,a3,a4,a5⟩)) 6 64 ⟨ByteArray.empty,ByteArray.empty,false,0,0,0⟩
@[reducible] def TI41:RI:=vR TI40
structure lM where
 At:Int
 Kind:Int
 Import:Int
 Add:Int
 deriving DecidableEq
@[reducible] def TI42:RI:=rF [.i,.i,.i,.i] (.of (fun(x:lM)=>(x.At,x.Kind,x.Import,x.Add,())) (fun(a0,a1,a2,a3,_)=>⟨a0,a1,a2,a3⟩)) 4 32 ⟨0,0,0,0⟩
@[reducible] def TI43:RI:=vR TI42
structure dQ where
 At:Int
 Size:Int
 deriving DecidableEq
@[reducible] def TI44:RI:=rF [.i,.i] (.of (fun(x:dQ)=>(x.At,x.Size,())) (fun(a0,a1,_)=>⟨a0,a1⟩)) 2 16 ⟨0,0⟩
@[reducible] def TI45:RI:=vR TI44
structure kR where
 gD:Int
 From:Int
 To:Int
 Name:ByteArray
 Where:Int
 N:Int
 deriving DecidableEq
@[reducible] def Wv:RI:=rF [.i,.i,.i,.s,.i,.i] (.of (fun(x:kR)=>(x.gD,x.From,x.To,x.Name,x.Where,x.N,())) (fun(a0,a1,a2,a3,a4,a5,_)=>⟨a0,a1,a2,a3,a4,a5⟩)) 6 56 ⟨0,0,0,ByteArray.empty,0,0⟩
@[reducible] def TI47:RI:=vR Wv
structure Iy where
 Marks:(List eU)
 Lines:(List fQ)
 Ends:(List dQ)
 dK:(List dW)
 Vars:(List kR)
 gy:(List iH)
 deriving DecidableEq
@[reducible] def TI48:RI:=rF [.l TI9,.l Ru,.l TI44,.l Rt,.l Wv,.l Rs] (.of (fun(x:Iy)=>(x.Marks,x.Lines,x.Ends,x.dK,x.Vars,x.gy,())) (fun(a0,a1,a2,a3,a4,a5,_)=>⟨a0,a1,a2,a3,a4,a5⟩)) 6 144 ⟨[],[],[],[],[],[]⟩
structure rZ where
 Obj:ByteArray
 gD:ByteArray
 From:ByteArray
 kS:(List om)
 Code:Int
 deriving DecidableEq
@[reducible] def TI49:RI:=rF [.s,.s,.s,.l TI29,.i] (.of (fun(x:rZ)=>(x.Obj,x.gD,x.From,x.kS,x.Code,())) (fun(a0,a1,a2,a3,a4,_)=>⟨a0,a1,a2,a3,a4⟩)) 5 80 ⟨ByteArray.empty,ByteArray.empty,ByteArray.empty,[],0⟩
@[reducible] def TI50:RI:=vR TI49
structure jr where
 Name:ByteArray
 Lib:Bool
 Code:Int
 Data:Int
 Zero:Int
 Bytes:ByteArray
 Tls:ByteArray
 Block:Int
 Nodes:(List fB)
 Exports:(List jL)
 Imports:(List qo)
 Slots:(List Int)
 kY:(List Int)
 Dyns:(List lM)
 lZ:(List Int)
 oQ:(List Int)
 Entry:Int
 Needs:(List ByteArray)
 fJ:(List iQ)
 Info:Iy
 Changes:(List rZ)
 deriving DecidableEq
@[reducible] def TI51:RI:=rF [.s,.b,.i,.i,.i,.s,.s,.i,.l TI38,.l TI40,.l TI21,.l Uy,.l Uy,.l TI42,.l Uy,.l Uy,.i,.l TI1,.l TI27,.l TI9,.l Ru,.l TI44,.l Rt,.l Wv,.l Rs,.l TI49] (.of (fun(x:jr)=>(x.Name,x.Lib,x.Code,x.Data,x.Zero,x.Bytes,x.Tls,x.Block,x.Nodes,x.Exports,x.Imports,x.Slots,x.kY,x.Dyns,x.lZ,x.oQ,x.Entry,x.Needs,x.fJ,x.Info.Marks,x.Info.Lines,x.Info.Ends,x.Info.dK,x.Info.Vars,x.Info.gy,x.Changes,())) (fun(a0,a1,a2,a3,a4,a5,a6,a7,a8,a9,a10,a11,a12,a13,a14,a15,a16,a17,a18,a19,a20,a21,a22,a23,a24,a25,_)=>⟨a0,a1,a2,a3,a4,a5,a6,a7,a8,a9,a10,a11,a12,a13,a14,a15,a16,a17,a18,⟨a19,a20,a21,a22,a23,a24⟩,a25⟩)) 26 504 ⟨ByteArray.empty,false,0,0,0,ByteArray.empty,ByteArray.empty,0,[],[],[],[],[],[],[],[],0,[],[],⟨[],[],[],[],[],[]⟩,[]⟩
@[reducible] def TI52:RI:=vR TI3
structure rJ where
 Op:Int
 A:Int
 B:Int
 C:Int
 Imm:Int
 deriving DecidableEq
@[reducible] def TI53:RI:=rF [.i,.i,.i,.i,.i] (.of (fun(x:rJ)=>(x.Op,x.A,x.B,x.C,x.Imm,())) (fun(a0,a1,a2,a3,a4,_)=>⟨a0,a1,a2,a3,a4⟩)) 5 40 ⟨0,0,0,0,0⟩
structure oh where
 off:Int
 size:Int
 ops:(List Int)
 deriving DecidableEq
@[reducible] def TI54:RI:=rF [.i,.i,.z Uy] (.of (fun(x:oh)=>(x.off,x.size,x.ops,())) (fun(a0,a1,a2,_)=>⟨a0,a1,a2⟩)) 3 40 ⟨0,0,[]⟩
structure MZ where
 Unit:fZ
 deriving DecidableEq
@[reducible] def TI55:RI:=rF [.s,.b,.l TI19,.l TI21,.l TI23,.l TI6,.l TI6,.l TI1,.i,.i,.i,.i,.l TI27,.l TI31] (.of (fun(x:MZ)=>(x.Unit.Name,x.Unit.Lib,x.Unit.Nodes,x.Unit.Imports,x.Unit.lQ,x.Unit.lZ,x.Unit.oQ,x.Unit.Needs,x.Unit.Entry.Kind,x.Unit.Entry.N,x.Unit.Entry.Off,x.Unit.Entry.Size,x.Unit.fJ,x.Unit.Changes,())) (fun(a0,a1,a2,a3,a4,a5,a6,a7,a8,a9,a10,a11,a12,a13,_)=>⟨⟨a0,a1,a2,a3,a4,a5,a6,a7,⟨a8,a9,a10,a11⟩,a12,a13⟩⟩)) 14 248 ⟨⟨ByteArray.empty,false,[],[],[],[],[],[],⟨0,0,0,0⟩,[],[]⟩⟩
structure Jk where
 used:(List dQ)
 ok:Bool
 deriving DecidableEq
@[reducible] def TI56:RI:=rF [.l TI44,.b] (.of (fun(x:Jk)=>(x.used,x.ok,())) (fun(a0,a1,_)=>⟨a0,a1⟩)) 2 32 ⟨[],false⟩
@[reducible] def TI57:RI:=rF [.i,.i,.i,.i] (.of (fun(x:(Int×Int×Int×Int))=>(x.1,x.2.1,x.2.2.1,x.2.2.2,())) (fun(a0,a1,a2,a3,_)=>(a0,a1,a2,a3))) 4 32 (0,0,0,0)
structure bW where
 at_:Int
 r:gX
 deriving DecidableEq
@[reducible] def TI58:RI:=rF [.i,.i,.i,.i,.i,.i,.i,.i] (.of (fun(x:bW)=>(x.at_,x.r.At,x.r.Kind,x.r.To.Kind,x.r.To.N,x.r.To.Off,x.r.To.Size,x.r.Add,())) (fun(a0,a1,a2,a3,a4,a5,a6,a7,_)=>⟨a0,⟨a1,a2,⟨a3,a4,a5,a6⟩,a7⟩⟩)) 8 64 ⟨0,⟨0,0,⟨0,0,0,0⟩,0⟩⟩
@[reducible] def TI59:RI:=vR TI58
@[reducible] def TI60:RI:=rF [.s,.s] (.of (fun(x:(ByteArray×ByteArray))=>(x.1,x.2,())) (fun(a0,a1,_)=>(a0,a1))) 2 32 (ByteArray.empty,ByteArray.empty)
structure xO where
 Name:ByteArray
 Kind:Int
 Align:Int
 Size:Int
 Bytes:ByteArray
 Keep:Bool
 deriving DecidableEq
@[reducible] def TI61:RI:=rF [.s,.i,.i,.i,.s,.b] (.of (fun(x:xO)=>(x.Name,x.Kind,x.Align,x.Size,x.Bytes,x.Keep,())) (fun(a0,a1,a2,a3,a4,a5,_)=>⟨a0,a1,a2,a3,a4,a5⟩)) 6 64 ⟨ByteArray.empty,0,0,0,ByteArray.empty,false⟩
@[reducible] def TI62:RI:=vR TI61
structure yJ where
 Name:ByteArray
 Version:ByteArray
 Main:Bool
 Bind:Int
 Vis:Int
 Kind:Int
 gD:Int
 At:Int
 Size:Int
 Align:Int
 deriving DecidableEq
@[reducible] def TI63:RI:=rF [.s,.s,.b,.i,.i,.i,.i,.i,.i,.i] (.of (fun(x:yJ)=>(x.Name,x.Version,x.Main,x.Bind,x.Vis,x.Kind,x.gD,x.At,x.Size,x.Align,())) (fun(a0,a1,a2,a3,a4,a5,a6,a7,a8,a9,_)=>⟨a0,a1,a2,a3,a4,a5,a6,a7,a8,a9⟩)) 10 96 ⟨ByteArray.empty,ByteArray.empty,false,0,0,0,0,0,0,0⟩
@[reducible] def TI64:RI:=vR TI63
structure Pd where
 gD:Int
 At:Int
 Kind:Int
 Sym:Int
 Add:Int
 deriving DecidableEq
@[reducible] def TI65:RI:=rF [.i,.i,.i,.i,.i] (.of (fun(x:Pd)=>(x.gD,x.At,x.Kind,x.Sym,x.Add,())) (fun(a0,a1,a2,a3,a4,_)=>⟨a0,a1,a2,a3,a4⟩)) 5 40 ⟨0,0,0,0,0⟩
@[reducible] def TI66:RI:=vR TI65
structure Rv where
 Name:ByteArray
 vP:(List Int)
 deriving DecidableEq
@[reducible] def TI67:RI:=rF [.s,.l Uy] (.of (fun(x:Rv)=>(x.Name,x.vP,())) (fun(a0,a1,_)=>⟨a0,a1⟩)) 2 40 ⟨ByteArray.empty,[]⟩
@[reducible] def TI68:RI:=vR TI67
structure Ux where
 Sym:Int
 Order:Int
 Last:Bool
 deriving DecidableEq
@[reducible] def TI69:RI:=rF [.i,.i,.b] (.of (fun(x:Ux)=>(x.Sym,x.Order,x.Last,())) (fun(a0,a1,a2,_)=>⟨a0,a1,a2⟩)) 3 24 ⟨0,0,false⟩
@[reducible] def TI70:RI:=vR TI69
structure oP where
 gD:Int
 From:ByteArray
 kS:(List om)
 Code:Int
 deriving DecidableEq
@[reducible] def TI71:RI:=rF [.i,.s,.l TI29,.i] (.of (fun(x:oP)=>(x.gD,x.From,x.kS,x.Code,())) (fun(a0,a1,a2,a3,_)=>⟨a0,a1,a2,a3⟩)) 4 56 ⟨0,ByteArray.empty,[],0⟩
@[reducible] def TI72:RI:=vR TI71
structure Uw where
 Name:ByteArray
 vP:(List xO)
 Syms:(List yJ)
 Rels:(List Pd)
 Groups:(List Rv)
 lZ:(List Ux)
 Lines:(List fQ)
 dK:(List dW)
 Vars:(List kR)
 gy:(List iH)
 Converts:(List oP)
 deriving DecidableEq
@[reducible] def TI73:RI:=rF [.s,.l TI61,.l TI63,.l TI65,.l TI67,.l TI69,.l Ru,.l Rt,.l Wv,.l Rs,.l TI71] (.of (fun(x:Uw)=>(x.Name,x.vP,x.Syms,x.Rels,x.Groups,x.lZ,x.Lines,x.dK,x.Vars,x.gy,x.Converts,())) (fun(a0,a1,a2,a3,a4,a5,a6,a7,a8,a9,a10,_)=>⟨a0,a1,a2,a3,a4,a5,a6,a7,a8,a9,a10⟩)) 11 256 ⟨ByteArray.empty,[],[],[],[],[],[],[],[],[],[]⟩
@[reducible] def TI74:RI:=vR TI2
structure oO where
 S:Int
 A:Int
 P:Int
 I:Int
 UC:Int
 Size:Int
 Slot:Int
 deriving DecidableEq
@[reducible] def TI75:RI:=rF [.i,.i,.i,.i,.i,.i,.i] (.of (fun(x:oO)=>(x.S,x.A,x.P,x.I,x.UC,x.Size,x.Slot,())) (fun(a0,a1,a2,a3,a4,a5,a6,_)=>⟨a0,a1,a2,a3,a4,a5,a6⟩)) 7 56 ⟨0,0,0,0,0,0,0⟩
structure Iw where
 name:ByteArray
 operands:ByteArray
 reads:ByteArray
 writes:ByteArray
 deriving DecidableEq
@[reducible] def TI76:RI:=rF [.s,.s,.s,.s] (.of (fun(x:Iw)=>(x.name,x.operands,x.reads,x.writes,())) (fun(a0,a1,a2,a3,_)=>⟨a0,a1,a2,a3⟩)) 4 64 ⟨ByteArray.empty,ByteArray.empty,ByteArray.empty,ByteArray.empty⟩
@[reducible] def TI77:RI:=rF [.i,.i] (.of (fun(x:(Int×Int))=>(x.1,x.2,())) (fun(a0,a1,_)=>(a0,a1))) 2 16 (0,0)
structure kX where
 From:Int
 To:Int
 deriving DecidableEq
@[reducible] def TI78:RI:=rF [.i,.i] (.of (fun(x:kX)=>(x.From,x.To,())) (fun(a0,a1,_)=>⟨a0,a1⟩)) 2 16 ⟨0,0⟩
@[reducible] def TI79:RI:=vR TI78
structure Jl where
 Object:Uw
 deriving DecidableEq
@[reducible] def TI80:RI:=rF [.s,.l TI61,.l TI63,.l TI65,.l TI67,.l TI69,.l Ru,.l Rt,.l Wv,.l Rs,.l TI71] (.of (fun(x:Jl)=>(x.Object.Name,x.Object.vP,x.Object.Syms,x.Object.Rels,x.Object.Groups,x.Object.lZ,x.Object.Lines,x.Object.dK,x.Object.Vars,x.Object.gy,x.Object.Converts,())) (fun(a0,a1,a2,a3,a4,a5,a6,a7,a8,a9,a10,_)=>⟨⟨a0,a1,a2,a3,a4,a5,a6,a7,a8,a9,a10⟩⟩)) 11 256 ⟨⟨ByteArray.empty,[],[],[],[],[],[],[],[],[],[]⟩⟩
@[reducible] def TI81:RI:=vR TI5
@[reducible] def TI82:RI:=vR TI34
structure M0 where
 next:(List (List Int))
 index:(List Int)
 low:(List Int)
 stack:(List Int)
 part:(List Int)
 parts:(List (List Int))
 deriving DecidableEq
@[reducible] def TI83:RI:=rF [.l TI34,.l Uy,.l Uy,.l Uy,.l Uy,.l TI34] (.of (fun(x:M0)=>(x.next,x.index,x.low,x.stack,x.part,x.parts,())) (fun(a0,a1,a2,a3,a4,a5,_)=>⟨a0,a1,a2,a3,a4,a5⟩)) 6 144 ⟨[],[],[],[],[],[]⟩
structure bR where
 v:Int
 i:Int
 deriving DecidableEq
@[reducible] def TI84:RI:=rF [.i,.i] (.of (fun(x:bR)=>(x.v,x.i,())) (fun(a0,a1,_)=>⟨a0,a1⟩)) 2 16 ⟨0,0⟩
@[reducible] def TI85:RI:=vR TI84
@[reducible] def Tab:RT:=(.nd (.nd (.nd (.nd (.nd (.nd (.nd .lf 0 Uy .lf) 1 TI1 .lf) 2 TI2 (.nd (.nd .lf 3 TI3 .lf) 4 TI4 .lf)) 5 TI5 (.nd (.nd (.nd .lf 6 TI6 .lf) 7 TI7 .lf) 8 TI8 (.nd .lf 9 TI9 .lf))) 10 TI10 (.nd (.nd (.nd (.nd .lf 11 Ru .lf) 12 TI12 .lf) 13 Rt (.nd (.nd .lf 14 TI14 .lf) 15 TI15 .lf)) 16 TI16 (.nd (.nd (.nd .lf 17 Rs .lf) 18 TI18 .lf) 19 TI19 (.nd .lf 20 TI20 .lf)))) 21 TI21 (.nd (.nd (.nd (.nd (.nd .lf 22 TI22 .lf) 23 TI23 .lf) 24 TI24 (.nd (.nd .lf 25 TI25 .lf) 26 TI26 .lf)) 27 TI27 (.nd (.nd (.nd .lf 28 TI28 .lf) 29 TI29 .lf) 30 TI30 (.nd .lf 31 TI31 .lf))) 32 TI32 (.nd (.nd (.nd (.nd .lf 33 TI33 .lf) 34 TI34 .lf) 35 TI35 (.nd (.nd .lf 36 TI36 .lf) 37 TI37 .lf)) 38 TI38 (.nd (.nd (.nd .lf 39 TI39 .lf) 40 TI40 .lf) 41 TI41 (.nd .lf 42 TI42 .lf))))) 43 TI43 (.nd (.nd (.nd (.nd (.nd (.nd .lf 44 TI44 .lf) 45 TI45 .lf) 46 Wv (.nd (.nd .lf 47 TI47 .lf) 48 TI48 .lf)) 49 TI49 (.nd (.nd (.nd .lf 50 TI50 .lf) 51 TI51 .lf) 52 TI52 (.nd .lf 53 TI53 .lf))) 54 TI54 (.nd (.nd (.nd (.nd .lf 55 TI55 .lf) 56 TI56 .lf) 57 TI57 (.nd (.nd .lf 58 TI58 .lf) 59 TI59 .lf)) 60 TI60 (.nd (.nd (.nd .lf 61 TI61 .lf) 62 TI62 .lf) 63 TI63 (.nd .lf 64 TI64 .lf)))) 65 TI65 (.nd (.nd (.nd (.nd (.nd .lf 66 TI66 .lf) 67 TI67 .lf) 68 TI68 (.nd (.nd .lf 69 TI69 .lf) 70 TI70 .lf)) 71 TI71 (.nd (.nd (.nd .lf 72 TI72 .lf) 73 TI73 .lf) 74 TI74 (.nd .lf 75 TI75 .lf))) 76 TI76 (.nd (.nd (.nd (.nd .lf 77 TI77 .lf) 78 TI78 .lf) 79 TI79 (.nd .lf 80 TI80 .lf)) 81 TI81 (.nd (.nd (.nd .lf 82 TI82 .lf) 83 TI83 .lf) 84 TI84 (.nd .lf 85 TI85 .lf))))))
@[reducible] def ah (c:Nat):Type:=(Tab.get c).α
abbrev Li (c:Nat):Type:=List (ah c)
def KT (c:Nat):Nat:=(Tab.get c).K
def BT (c:Nat):Nat:=(Tab.get c).B
def eu (c:Nat):ah c->List CP:=(Tab.get c).D
def rE (c:Nat):ah c:=(Tab.get c).Z
def TV (c:Nat):ah c->Value:=(Tab.get c).V
instance (c:Nat):DecidableEq (ah c):=(Tab.get c).eq
theorem BT_pos (c:Nat):1<=BT c:=(Tab.get c).pos
theorem Iz (c:Nat) (x:ah c):(eu c x).length=KT c:=(Tab.get c).len x
inductive SV:Type
 |v (x:Value)
 |i (n:Int)
 |b (p:Bool)
 |w8 (x:UInt8)
 |w32 (x:UInt32)
 |jg (x:UInt64)
 |str (s:ByteArray)
 |loc (i o:Nat)
 |bT (i:Nat)
 |wN (i:Nat)
 |DN (i:Nat) (k:Int)
 |sub (i c:Nat) (lo hi:Int)
 |Ah (i c:Nat) (k:Int) (o:Nat)
 |Ag (i c N:Nat) (k:Int) (o:Nat)
 |DF (i c N:Nat) (lo hi:Int)
 |av (c N:Nat) (l:Li c)
 |aW (z:Option Bool) (c:Nat) (l:Li c)
 |fp (cs:List SV) (o:Nat)
 |lH (c N:Nat) (l:Li c)
 |yN (cs:List SV)
 |agg (l:List SV)
 |jm (l:List SV)
 |nL (f:FuncId) (first caps:List SV)
 |uo (t:TypeId) (x:SV)
 |un
abbrev SV.nl:SV:=.v (.slice none 0 0)
def uz (K:Nat) (lo hi:Nat):Value->Value
 |.slice a _ c=>.slice (if c=lo then a else a.map (·.add (lo*K))) (hi-lo) (c-lo)
 |v=>v
mutual
def Den (m:Mm) (ids:List Value):SV->Value->Prop
 |.v x,y=>y=x
 |.i n,y=>y=.int .i64 n/\lC n
 |.b p,y=>y=.bool p
 |.w8 x,y=>y=.int .u8 x.toNat
 |.w32 x,y=>y=.int .u32 x.toNat
 |.jg x,y=>y=.int .u64 x.toNat
 |.str s,y=>y=.string s/\(s.size:Int)<=oo
 |.loc i o,y=>∃ b,ids[i]?=some (.pointer (some ⟨b,0,none⟩))/\y=.pointer (some ⟨b,o,none⟩)
 |.bT i,y=>ids[i]?=some y/\y.oneCell'=true
 |.wN i,y=>∃ vs,ids[i]?=some (.tuple (y::vs).toArray)/\y.oneCell'=true
 |.DN i k,y=>∃ b q n cp vs,ids[i]?=some (.tuple (.slice (some ⟨b,q,none⟩) n cp::vs).toArray)/\0<=k/\k<n/\y=.pointer (some ⟨b,q+k.toNat,none⟩)
 |.sub i c lo hi,y=>∃ a n cp,ids[i]?=some (.slice a n cp)/\0<=lo/\lo<=hi/\hi<=n/\(0<n->∃ b q,a=some ⟨b,q,none⟩)/\n<=cp/\n<=140737488355328/\y=uz (KT c) lo.toNat hi.toNat (.slice a n cp)
 |.Ah i c k o,y=>∃ b q n cp,ids[i]?=some (.slice (some ⟨b,q,none⟩) n cp)/\0<=k/\k<n/\y=.pointer (some ⟨b,q+k.toNat * KT c+o,none⟩)
 |.Ag i c N k o,y=>∃ b,ids[i]?=some (.pointer (some ⟨b,0,none⟩))/\0<=k/\k<N/\y=.pointer (some ⟨b,k.toNat * KT c+o,none⟩)
 |.DF i c N lo hi,y=>∃ b,ids[i]?=some (.pointer (some ⟨b,0,none⟩))/\0<=lo/\lo<=hi/\hi<=N/\N<=140737488355328/\y=uz (KT c) lo.toNat hi.toNat (.slice (some ⟨b,0,none⟩) N N)
 |.av c N l,y=>∃ bC:List (List Value),y=.agg bC.flatten.toArray/\eH (KT c) (eu c) m l bC/\l.length=N
 |.aW z c l,y=>LD (KT c) (BT c) (eu c) z l m y
 |.fp cs o,y=>∃ b q us,y=.pointer (some ⟨b,q+o,none⟩)/\m.S b/\At m.w b q us/\aC m ids cs us
 |.lH c N l,y=>∃ b q bC,y=.pointer (some ⟨b,q,none⟩)/\m.S b/\At m.w b q bC.flatten/\eH (KT c) (eu c) m l bC/\l.length=N
 |.yN cs,y=>∃ b q us,y=.slice (some ⟨b,q,none⟩) us.length us.length/\us.length<=1000/\m.S b/\At m.w b q us/\aC m ids cs us
 |.agg l,y=>∃ us:List Value,y=.agg us.toArray/\aC m ids l us
 |.jm l,y=>∃ us:List Value,y=.tuple us.toArray/\aC m ids l us
 |.nL f first caps,y=>∃ us vs:List Value,y=.func (.func f) us.toArray vs.toArray/\aC m ids first us/\aC m ids caps vs
 |.uo t x,y=>∃ u,y=.iface t u/\Den m ids x u
 |.un,_=>True
def aC (m:Mm) (ids:List Value):List SV->List Value->Prop
 |[],us=>us=[]
 |s::r,us=>∃ u us',us=u::us'/\Den m ids s u/\aC m ids r us'
end
section
variable {m m':Mm} {ids aO:List Value}
mutual
theorem Den.le (hm:m.le m'):∀ (s:SV) {ids:List Value} {y:Value},Den m ids s y->Den m' ids s y
 |.v _,_,_,h=>by rw [Den]at h ⊢;exact h
 |.i _,_,_,h=>by rw [Den]at h ⊢;exact h
 |.b _,_,_,h=>by rw [Den]at h ⊢;exact h
 |.w8 _,_,_,h=>by rw [Den]at h ⊢;exact h
 |.w32 _,_,_,h=>by rw [Den]at h ⊢;exact h
 |.jg _,_,_,h=>by rw [Den]at h ⊢;exact h
 |.str _,_,_,h=>by rw [Den]at h ⊢;exact h
 |.loc _ _,_,_,h=>by rw [Den]at h ⊢;exact h
 |.bT _,_,_,h=>by rw [Den]at h ⊢;exact h
 |.wN _,_,_,h=>by rw [Den]at h ⊢;exact h
 |.DN ..,_,_,h=>by rw [Den]at h ⊢;exact h
 |.sub ..,_,_,h=>by rw [Den]at h ⊢;exact h
 |.Ah ..,_,_,h=>by rw [Den]at h ⊢;exact h
 |.Ag ..,_,_,h=>by rw [Den]at h ⊢;exact h
 |.DF ..,_,_,h=>by rw [Den]at h ⊢;exact h
 |.av ..,_,_,h=>by
   rw [Den]at h ⊢;obtain⟨bC,h1,h2,h3⟩:=h;exact⟨bC,h1,h2.le hm,h3⟩
 |.aW ..,_,_,h=>by rw [Den]at h ⊢;exact h.le hm
 |.fp cs o,_,_,h=>by
   rw [Den]at h ⊢;obtain⟨b,q,us,h1,h2,h3,h4⟩:=h;exact⟨b,q,us,h1,(hm.S b h2).1,u6 h3 (hm.S b h2).2,aC.le hm cs h4⟩
 |.lH ..,_,_,h=>by
   rw [Den]at h ⊢;obtain⟨b,q,us,h1,h2,h3,h4⟩:=h;exact⟨b,q,us,h1,(hm.S b h2).1,u6 h3 (hm.S b h2).2,h4.1.le hm,h4.2⟩
 |.yN cs,_,_,h=>by
   rw [Den]at h ⊢;obtain⟨b,q,us,h1,h0,h2,h3,h4⟩:=h;exact⟨b,q,us,h1,h0,(hm.S b h2).1,u6 h3 (hm.S b h2).2,aC.le hm cs h4⟩
 |.agg l,_,_,h=>by
   rw [Den]at h ⊢;obtain⟨us,h1,h2⟩:=h;exact⟨us,h1,aC.le hm l h2⟩
 |.jm l,_,_,h=>by
   rw [Den]at h ⊢;obtain⟨us,h1,h2⟩:=h;exact⟨us,h1,aC.le hm l h2⟩
 |.nL f fs cs,_,_,h=>by
   rw [Den]at h ⊢;obtain⟨us,vs,h1,h2,h3⟩:=h;exact⟨us,vs,h1,aC.le hm fs h2,aC.le hm cs h3⟩
 |.uo t x,_,_,h=>by
   rw [Den]at h ⊢;obtain⟨u,h1,h2⟩:=h;exact⟨u,h1,Den.le hm x h2⟩
 |.un,_,_,_=>by rw [Den];trivial
theorem aC.le (hm:m.le m'):∀ (l:List SV) {ids:List Value} {us:List Value},aC m ids l us->aC m' ids l us
 |[],_,_,h=>by rw [aC]at h ⊢;exact h
 |s::r,_,_,h=>by
   rw [aC]at h ⊢;obtain⟨u,us',h1,h2,h3⟩:=h;exact⟨u,us',h1,Den.le hm s h2,aC.le hm r h3⟩
end
section
universe u
def nth {α:Type u}:List α->Nat->Option α
 |[],_=>none
 |x::_,0=>some x
 |_::r,n+1=>nth r n
theorem pE {α:Type u}:∀ (l:List α) (i:Nat),nth l i=l[i]?
 |[],_=>rfl
 |_::_,0=>rfl
 |_::r,i+1=>by simp only [nth,List.getElem?_cons_succ];exact pE r i
end
def rn (n z:Nat) (r:List Nat) (i:Nat):Nat:=match Nat.blt i n with
 |true=>i
 |false=>match nth r (i-n)with
   |some j=>j
   |none=>i+z
mutual
def ren (n z:Nat) (r:List Nat):SV->SV
 |.loc i o=>.loc (rn n z r i) o
 |.bT i=>.bT (rn n z r i)
 |.wN i=>.wN (rn n z r i)
 |.DN i k=>.DN (rn n z r i) k
 |.sub i c lo hi=>.sub (rn n z r i) c lo hi
 |.Ah i c k o=>.Ah (rn n z r i) c k o
 |.Ag i c N k o=>.Ag (rn n z r i) c N k o
 |.DF i c N lo hi=>.DF (rn n z r i) c N lo hi
 |.fp cs o=>.fp (vJ n z r cs) o
 |.yN cs=>.yN (vJ n z r cs)
 |.agg l=>.agg (vJ n z r l)
 |.jm l=>.jm (vJ n z r l)
 |.nL f fs cs=>.nL f (vJ n z r fs) (vJ n z r cs)
 |.uo t x=>.uo t (ren n z r x)
 |s=>s
def vJ (n z:Nat) (r:List Nat):List SV->List SV
 |[]=>[]
 |s::l=>ren n z r s::vJ n z r l
end
def Rn (n z:Nat) (r:List Nat) (ids aO:List Value):Prop:=∀ i,i<ids.length->ids[i]?=aO[rn n z r i]?
section
variable {n z:Nat} {r:List Nat}
theorem jy (hr:Rn n z r ids aO) {i:Nat} {v:Value} (h:ids[i]?=some v):aO[rn n z r i]?=some v:=by
 rw [<- hr i (List.getElem?_eq_some_iff.1 h).1];exact h
mutual
theorem Den.ren (hr:Rn n z r ids aO):∀ (s:SV) {y:Value},Den m ids s y->Den m aO (SX.ren n z r s) y
 |.v x,y,h=>(by rw [Den]at h ⊢;exact h:Den m aO (.v x) y)
 |.i x,y,h=>(by rw [Den]at h ⊢;exact h:Den m aO (.i x) y)
 |.b x,y,h=>(by rw [Den]at h ⊢;exact h:Den m aO (.b x) y)
 |.w8 x,y,h=>(by rw [Den]at h ⊢;exact h:Den m aO (.w8 x) y)
 |.w32 x,y,h=>(by rw [Den]at h ⊢;exact h:Den m aO (.w32 x) y)
 |.jg x,y,h=>(by rw [Den]at h ⊢;exact h:Den m aO (.jg x) y)
 |.str x,y,h=>(by rw [Den]at h ⊢;exact h:Den m aO (.str x) y)
 |.loc _ _,_,h=>by rw [SX.ren];rw [Den]at h ⊢;obtain⟨b,h1,h2⟩:=h;exact⟨b,jy hr h1,h2⟩
 |.bT _,_,h=>by rw [SX.ren];rw [Den]at h ⊢;exact⟨jy hr h.1,h.2⟩
 |.wN _,_,h=>by rw [SX.ren];rw [Den]at h ⊢;obtain⟨vs,h1,h2⟩:=h;exact⟨vs,jy hr h1,h2⟩
 |.DN ..,_,h=>by rw [SX.ren];rw [Den]at h ⊢;obtain⟨b,q,n,c,vs,h1,h2⟩:=h;exact⟨b,q,n,c,vs,jy hr h1,h2⟩
 |.sub ..,_,h=>by rw [SX.ren];rw [Den]at h ⊢;obtain⟨a,n,cp,h1,h2⟩:=h;exact⟨a,n,cp,jy hr h1,h2⟩
 |.Ah ..,_,h=>by rw [SX.ren];rw [Den]at h ⊢;obtain⟨b,q,n,c,h1,h2⟩:=h;exact⟨b,q,n,c,jy hr h1,h2⟩
 |.Ag ..,_,h=>by rw [SX.ren];rw [Den]at h ⊢;obtain⟨b,h1,h2⟩:=h;exact⟨b,jy hr h1,h2⟩
 |.DF ..,_,h=>by rw [SX.ren];rw [Den]at h ⊢;obtain⟨b,h1,h2⟩:=h;exact⟨b,jy hr h1,h2⟩
 |.av c N l,y,h=>(by rw [Den]at h ⊢;exact h:Den m aO (.av c N l) y)
 |.aW k c l,y,h=>(by rw [Den]at h ⊢;exact h:Den m aO (.aW k c l) y)
 |.fp cs _,_,h=>by rw [SX.ren];rw [Den]at h ⊢;obtain⟨b,q,us,h1,h2,h3,h4⟩:=h;exact⟨b,q,us,h1,h2,h3,aC.ren hr cs h4⟩
 |.lH c N l,y,h=>(by rw [Den]at h ⊢;exact h:Den m aO (.lH c N l) y)
 |.yN cs,_,h=>by rw [SX.ren];rw [Den]at h ⊢;obtain⟨b,q,us,h1,h0,h2,h3,h4⟩:=h;exact⟨b,q,us,h1,h0,h2,h3,aC.ren hr cs h4⟩
 |.agg l,_,h=>by rw [SX.ren];rw [Den]at h ⊢;obtain⟨us,h1,h2⟩:=h;exact⟨us,h1,aC.ren hr l h2⟩
 |.jm l,_,h=>by rw [SX.ren];rw [Den]at h ⊢;obtain⟨us,h1,h2⟩:=h;exact⟨us,h1,aC.ren hr l h2⟩
 |.nL f fs cs,_,h=>by rw [SX.ren];rw [Den]at h ⊢;obtain⟨us,vs,h1,h2,h3⟩:=h;exact⟨us,vs,h1,aC.ren hr fs h2,aC.ren hr cs h3⟩
 |.uo t x,_,h=>by rw [SX.ren];rw [Den]at h ⊢;obtain⟨u,h1,h2⟩:=h;exact⟨u,h1,Den.ren hr x h2⟩
 |.un,y,_=>(by rw [Den];trivial:Den m aO .un y)
theorem aC.ren (hr:Rn n z r ids aO):∀ (l:List SV) {us:List Value},aC m ids l us->aC m aO (vJ n z r l) us
 |[],_,h=>by rw [vJ];rw [aC]at h ⊢;exact h
 |s::l,_,h=>by rw [vJ];rw [aC]at h ⊢;obtain⟨u,us',h1,h2,h3⟩:=h;exact⟨u,us',h1,Den.ren hr s h2,aC.ren hr l h3⟩
end
end
def Rn' (n z:Nat) (r:List Nat) (ids aO:List Value):Prop:=∀ i,ids[i]?=aO[rn n z r i]?
section
variable {n z:Nat} {r:List Nat}
mutual
theorem Den.kN (hr:Rn' n z r ids aO):∀ (s:SV) {y:Value},Den m aO (SX.ren n z r s) y->Den m ids s y
 |.v x,y,h=>(by have h:Den m aO (.v x) y:=h;rw [Den]at h ⊢;exact h)
 |.i x,y,h=>(by have h:Den m aO (.i x) y:=h;rw [Den]at h ⊢;exact h)
 |.b x,y,h=>(by have h:Den m aO (.b x) y:=h;rw [Den]at h ⊢;exact h)
 |.w8 x,y,h=>(by have h:Den m aO (.w8 x) y:=h;rw [Den]at h ⊢;exact h)
 |.w32 x,y,h=>(by have h:Den m aO (.w32 x) y:=h;rw [Den]at h ⊢;exact h)
 |.jg x,y,h=>(by have h:Den m aO (.jg x) y:=h;rw [Den]at h ⊢;exact h)
 |.str x,y,h=>(by have h:Den m aO (.str x) y:=h;rw [Den]at h ⊢;exact h)
 |.loc i _,_,h=>by rw [SX.ren]at h;rw [Den]at h ⊢;rw [hr i];exact h
 |.bT i,_,h=>by rw [SX.ren]at h;rw [Den]at h ⊢;rw [hr i];exact h
 |.wN i,_,h=>by rw [SX.ren]at h;rw [Den]at h ⊢;rw [hr i];exact h
 |.DN i ..,_,h=>by rw [SX.ren]at h;rw [Den]at h ⊢;rw [hr i];exact h
 |.sub i ..,_,h=>by rw [SX.ren]at h;rw [Den]at h ⊢;rw [hr i];exact h
 |.Ah i ..,_,h=>by rw [SX.ren]at h;rw [Den]at h ⊢;rw [hr i];exact h
 |.Ag i ..,_,h=>by rw [SX.ren]at h;rw [Den]at h ⊢;rw [hr i];exact h
 |.DF i ..,_,h=>by rw [SX.ren]at h;rw [Den]at h ⊢;rw [hr i];exact h
 |.av c N l,y,h=>(by have h:Den m aO (.av c N l) y:=h;rw [Den]at h ⊢;exact h)
 |.aW k c l,y,h=>(by have h:Den m aO (.aW k c l) y:=h;rw [Den]at h ⊢;exact h)
 |.fp cs _,_,h=>by rw [SX.ren]at h;rw [Den]at h ⊢;obtain⟨b,q,us,h1,h2,h3,h4⟩:=h;exact⟨b,q,us,h1,h2,h3,aC.kN hr cs h4⟩
 |.lH c N l,y,h=>(by have h:Den m aO (.lH c N l) y:=h;rw [Den]at h ⊢;exact h)
 |.yN cs,_,h=>by rw [SX.ren]at h;rw [Den]at h ⊢;obtain⟨b,q,us,h1,h0,h2,h3,h4⟩:=h;exact⟨b,q,us,h1,h0,h2,h3,aC.kN hr cs h4⟩
 |.agg l,_,h=>by rw [SX.ren]at h;rw [Den]at h ⊢;obtain⟨us,h1,h2⟩:=h;exact⟨us,h1,aC.kN hr l h2⟩
 |.jm l,_,h=>by rw [SX.ren]at h;rw [Den]at h ⊢;obtain⟨us,h1,h2⟩:=h;exact⟨us,h1,aC.kN hr l h2⟩
 |.nL f fs cs,_,h=>by rw [SX.ren]at h;rw [Den]at h ⊢;obtain⟨us,vs,h1,h2,h3⟩:=h;exact⟨us,vs,h1,aC.kN hr fs h2,aC.kN hr cs h3⟩
 |.uo t x,_,h=>by rw [SX.ren]at h;rw [Den]at h ⊢;obtain⟨u,h1,h2⟩:=h;exact⟨u,h1,Den.kN hr x h2⟩
 |.un,_,_=>by rw [Den];trivial
theorem aC.kN (hr:Rn' n z r ids aO):∀ (l:List SV) {us:List Value},aC m aO (vJ n z r l) us->aC m ids l us
 |[],_,h=>by rw [vJ]at h;rw [aC]at h ⊢;exact h
 |s::l,_,h=>by rw [vJ]at h;rw [aC]at h ⊢;obtain⟨u,us',h1,h2,h3⟩:=h;exact⟨u,us',h1,Den.kN hr s h2,aC.kN hr l h3⟩
end
end
theorem gZ {i:Nat} {e:List Value} {v:Value} (h:ids[i]?=some v):(ids++e)[i]?=some v:=by
 rw [List.getElem?_append_left (List.getElem?_eq_some_iff.1 h).1];exact h
mutual
theorem Den.app (e:List Value):∀ (s:SV) {y:Value},Den m ids s y->Den m (ids++e) s y
 |.v _,_,h=>by rw [Den]at h ⊢;exact h
 |.i _,_,h=>by rw [Den]at h ⊢;exact h
 |.b _,_,h=>by rw [Den]at h ⊢;exact h
 |.w8 _,_,h=>by rw [Den]at h ⊢;exact h
 |.w32 _,_,h=>by rw [Den]at h ⊢;exact h
 |.jg _,_,h=>by rw [Den]at h ⊢;exact h
 |.str _,_,h=>by rw [Den]at h ⊢;exact h
 |.loc _ _,_,h=>by rw [Den]at h ⊢;obtain⟨b,h1,h2⟩:=h;exact⟨b,gZ h1,h2⟩
 |.bT _,_,h=>by rw [Den]at h ⊢;exact⟨gZ h.1,h.2⟩
 |.wN _,_,h=>by rw [Den]at h ⊢;obtain⟨vs,h1,h2⟩:=h;exact⟨vs,gZ h1,h2⟩
 |.DN ..,_,h=>by rw [Den]at h ⊢;obtain⟨b,q,n,c,vs,h1,h2⟩:=h;exact⟨b,q,n,c,vs,gZ h1,h2⟩
 |.sub ..,_,h=>by rw [Den]at h ⊢;obtain⟨b,q,n,h1,h2⟩:=h;exact⟨b,q,n,gZ h1,h2⟩
 |.Ah ..,_,h=>by rw [Den]at h ⊢;obtain⟨b,q,n,c,h1,h2⟩:=h;exact⟨b,q,n,c,gZ h1,h2⟩
 |.Ag ..,_,h=>by rw [Den]at h ⊢;obtain⟨b,h1,h2⟩:=h;exact⟨b,gZ h1,h2⟩
 |.DF ..,_,h=>by rw [Den]at h ⊢;obtain⟨b,h1,h2⟩:=h;exact⟨b,gZ h1,h2⟩
 |.av ..,_,h=>by rw [Den]at h ⊢;exact h
 |.aW ..,_,h=>by rw [Den]at h ⊢;exact h
 |.fp cs _,_,h=>by rw [Den]at h ⊢;obtain⟨b,q,us,h1,h2,h3,h4⟩:=h;exact⟨b,q,us,h1,h2,h3,aC.app e cs h4⟩
 |.lH ..,_,h=>by rw [Den]at h ⊢;exact h
 |.yN cs,_,h=>by rw [Den]at h ⊢;obtain⟨b,q,us,h1,h0,h2,h3,h4⟩:=h;exact⟨b,q,us,h1,h0,h2,h3,aC.app e cs h4⟩
 |.agg l,_,h=>by rw [Den]at h ⊢;obtain⟨us,h1,h2⟩:=h;exact⟨us,h1,aC.app e l h2⟩
 |.jm l,_,h=>by rw [Den]at h ⊢;obtain⟨us,h1,h2⟩:=h;exact⟨us,h1,aC.app e l h2⟩
 |.nL _ fs cs,_,h=>by rw [Den]at h ⊢;obtain⟨us,vs,h1,h2,h3⟩:=h;exact⟨us,vs,h1,aC.app e fs h2,aC.app e cs h3⟩
 |.uo _ x,_,h=>by rw [Den]at h ⊢;obtain⟨u,h1,h2⟩:=h;exact⟨u,h1,Den.app e x h2⟩
 |.un,_,_=>by rw [Den];trivial
theorem aC.app (e:List Value):∀ (l:List SV) {us:List Value},aC m ids l us->aC m (ids++e) l us
 |[],_,h=>by rw [aC]at h ⊢;exact h
 |s::r,_,h=>by rw [aC]at h ⊢;obtain⟨u,us',h1,h2,h3⟩:=h;exact⟨u,us',h1,Den.app e s h2,aC.app e r h3⟩
end
theorem xY {i:Nat} {v w:Value} {vs us:List Value} (h:ids[i]?=some (.tuple (v::vs).toArray)) (h':ids[i]?=some (.tuple (w::us).toArray)):v=w/\vs=us:=by
 rw [h]at h';injection h' with h'
 injection h' with h'
 have:=congrArg Array.toList h';simp only [List.cons.injEq]at this;exact this
theorem uT {i j:Nat} {us:List Value} {t u:Value} (hi:ids[i]?=some (.tuple us.toArray)) (h:ids[j]?=some u) (hu:∀ a,u≠.tuple a):(ids.set i t)[j]?=some u:=by
 rw [List.getElem?_set_ne]
 ·exact h
 ·intro e;subst e;rw [hi]at h;cases h;exact hu _ rfl
theorem OH {i j:Nat} {v w:Value} {vs vs' us:List Value} (hi:ids[i]?=some (.tuple (v::vs).toArray)) (h:ids[j]?=some (.tuple (w::us).toArray)):∃ us',(ids.set i (.tuple (v::vs').toArray))[j]?=some (.tuple (w::us').toArray):=by
 by_cases e:i=j
 ·subst e;rw [hi]at h;injection h with h
  injection h with h
  have:=congrArg Array.toList h;simp only [List.cons.injEq]at this;obtain⟨rfl,rfl⟩:=this;have hl:=(List.getElem?_eq_some_iff.1 hi).1;exact⟨vs',by rw [List.getElem?_set_self hl]⟩
 ·exact⟨us,by rw [List.getElem?_set_ne e];exact h⟩
mutual
theorem Den.set {i:Nat} {v:Value} {vs vs':List Value} (hi:ids[i]?=some (.tuple (v::vs).toArray)):∀ (s:SV) {y:Value},Den m ids s y->Den m (ids.set i (.tuple (v::vs').toArray)) s y
 |.v _,_,h=>by rw [Den]at h ⊢;exact h
 |.i _,_,h=>by rw [Den]at h ⊢;exact h
 |.b _,_,h=>by rw [Den]at h ⊢;exact h
 |.w8 _,_,h=>by rw [Den]at h ⊢;exact h
 |.w32 _,_,h=>by rw [Den]at h ⊢;exact h
 |.jg _,_,h=>by rw [Den]at h ⊢;exact h
 |.str _,_,h=>by rw [Den]at h ⊢;exact h
 |.loc _ _,_,h=>by rw [Den]at h ⊢;obtain⟨b,h1,h2⟩:=h;exact⟨b,uT hi h1 (fun _=>by simp),h2⟩
 |.bT _,_,h=>by
   rw [Den]at h ⊢;refine⟨uT hi h.1 fun a e=>?_,h.2⟩
   rw [e]at h;cases h.2
 |.wN _,_,h=>by rw [Den]at h ⊢;obtain⟨us,h1,h2⟩:=h;obtain⟨us',h3⟩:=OH (vs':=vs') hi h1;exact⟨us',h3,h2⟩
 |.DN ..,_,h=>by rw [Den]at h ⊢;obtain⟨b,q,n,c,us,h1,h2⟩:=h;obtain⟨us',h3⟩:=OH (vs':=vs') hi h1;exact⟨b,q,n,c,us',h3,h2⟩
 |.sub ..,_,h=>by rw [Den]at h ⊢;obtain⟨b,q,n,h1,h2⟩:=h;exact⟨b,q,n,uT hi h1 (fun _=>by simp),h2⟩
 |.Ah ..,_,h=>by rw [Den]at h ⊢;obtain⟨b,q,n,c,h1,h2⟩:=h;exact⟨b,q,n,c,uT hi h1 (fun _=>by simp),h2⟩
 |.Ag ..,_,h=>by rw [Den]at h ⊢;obtain⟨b,h1,h2⟩:=h;exact⟨b,uT hi h1 (fun _=>by simp),h2⟩
 |.DF ..,_,h=>by rw [Den]at h ⊢;obtain⟨b,h1,h2⟩:=h;exact⟨b,uT hi h1 (fun _=>by simp),h2⟩
 |.av ..,_,h=>by rw [Den]at h ⊢;exact h
 |.aW ..,_,h=>by rw [Den]at h ⊢;exact h
 |.fp cs _,_,h=>by rw [Den]at h ⊢;obtain⟨b,q,us,h1,h2,h3,h4⟩:=h;exact⟨b,q,us,h1,h2,h3,aC.set hi cs h4⟩
 |.lH ..,_,h=>by rw [Den]at h ⊢;exact h
 |.yN cs,_,h=>by rw [Den]at h ⊢;obtain⟨b,q,us,h1,h0,h2,h3,h4⟩:=h;exact⟨b,q,us,h1,h0,h2,h3,aC.set hi cs h4⟩
 |.agg l,_,h=>by rw [Den]at h ⊢;obtain⟨us,h1,h2⟩:=h;exact⟨us,h1,aC.set hi l h2⟩
 |.jm l,_,h=>by rw [Den]at h ⊢;obtain⟨us,h1,h2⟩:=h;exact⟨us,h1,aC.set hi l h2⟩
 |.nL _ fs cs,_,h=>by rw [Den]at h ⊢;obtain⟨us,vs,h1,h2,h3⟩:=h;exact⟨us,vs,h1,aC.set hi fs h2,aC.set hi cs h3⟩
 |.uo _ x,_,h=>by rw [Den]at h ⊢;obtain⟨u,h1,h2⟩:=h;exact⟨u,h1,Den.set hi x h2⟩
 |.un,_,_=>by rw [Den];trivial
theorem aC.set {i:Nat} {v:Value} {vs vs':List Value} (hi:ids[i]?=some (.tuple (v::vs).toArray)):∀ (l:List SV) {us:List Value},aC m ids l us->aC m (ids.set i (.tuple (v::vs').toArray)) l us
 |[],_,h=>by rw [aC]at h ⊢;exact h
 |s::r,_,h=>by rw [aC]at h ⊢;obtain⟨u,us',h1,h2,h3⟩:=h;exact⟨u,us',h1,Den.set hi s h2,aC.set hi r h3⟩
end
theorem aC.length:∀ {l:List SV} {us:List Value},aC m ids l us->us.length=l.length
 |[],_,h=>by rw [aC]at h;rw [h];rfl
 |_::r,_,h=>by rw [aC]at h;obtain⟨u,us',rfl,_,h3⟩:=h;simp [aC.length h3]
theorem aC.get:∀ {l:List SV} {us:List Value},aC m ids l us->∀ {i:Nat} {s:SV},l[i]?=some s->∃ u,us[i]?=some u/\Den m ids s u
 |[],_,_,i,s,h=>by simp at h
 |t::r,_,h,i,s,hi=>by
   rw [aC]at h;obtain⟨u,us',rfl,h2,h3⟩:=h
   cases i with
   |zero=>simp only [List.getElem?_cons_zero,Option.some.injEq]at hi;subst hi;exact⟨u,rfl,h2⟩
   |succ i=>simp only [List.getElem?_cons_succ]at hi ⊢;exact aC.get h3 hi
theorem aC.append {l l':List SV} {us us':List Value} (h:aC m ids l us) (h':aC m ids l' us'):aC m ids (l++l') (us++us'):=by
 induction l generalizing us with
 |nil=>rw [aC]at h;subst h;exact h'
 |cons s r ih =>
   rw [aC]at h;obtain⟨u,us1,rfl,h2,h3⟩:=h;rw [List.cons_append,List.cons_append,aC];exact⟨u,us1++us',rfl,h2,ih h3⟩
theorem aC.nil {us:List Value} (h:aC m ids [] us):us=[]:=by rw [aC]at h;exact h
theorem aC.drop:∀ {l:List SV} {us:List Value} (n:Nat),aC m ids l us->aC m ids (l.drop n) (us.drop n)
 |_,_,0,h=>h
 |[],_,n+1,h=>by rw [aC]at h;subst h;simp only [List.drop_nil];rw [aC]
 |_::r,_,n+1,h=>by
   rw [aC]at h;obtain⟨u,us',rfl,_,h3⟩:=h;simp only [List.drop_succ_cons];exact aC.drop n h3
theorem aC.take:∀ {l:List SV} {us:List Value} (n:Nat),aC m ids l us->aC m ids (l.take n) (us.take n)
 |_,_,0,_=>by simp only [List.take_zero];rw [aC]
 |[],_,n+1,h=>by rw [aC]at h;subst h;simp only [List.take_nil];rw [aC]
 |_::r,_,n+1,h=>by
   rw [aC]at h;obtain⟨u,us',rfl,h2,h3⟩:=h;simp only [List.take_succ_cons];rw [aC];exact⟨u,_,rfl,h2,aC.take n h3⟩
end
def asI:SV->Option Int
 |.i n=>some n
 |_=>none
def asB:SV->Option Bool
 |.b n=>some n
 |_=>none
def asS:SV->Option ByteArray
 |.str n=>some n
 |_=>none
def as8:SV->Option UInt8
 |.w8 n=>some n
 |_=>none
def as32:SV->Option UInt32
 |.w32 n=>some n
 |_=>none
def as64:SV->Option UInt64
 |.jg n=>some n
 |_=>none
def jN (c d:Nat) (l:Li c):Option (Li d):=match Nat.decEq c d with
 |isTrue h=>(h▸(some l:Option (Li c)):Option (Li d))
 |isFalse _=>none
def asL (d:Nat):SV->Option (Li d)
 |.aW _ c l=>jN c d l
 |.v (.slice none 0 0)=>some []
 |_=>none
theorem dU {c d:Nat} {l:Li c} {l':Li d} (h:jN c d l=some l'):∃ e:c=d,e▸l=l':=by
 unfold jN at h;split at h
 ·rename_i e _;subst e;exact⟨rfl,by simpa using h⟩
 ·cases h
section
variable {m:Mm} {ids:List Value} {s:SV} {y:Value}
theorem asI_ok {n:Int} (h:asI s=some n) (hd:Den m ids s y):(CP.int n).p m y:=by
 unfold asI at h;split at h
 ·cases h;rw [Den]at hd;exact hd
 ·cases h
theorem asB_ok {n:Bool} (h:asB s=some n) (hd:Den m ids s y):(CP.bool n).p m y:=by
 unfold asB at h;split at h
 ·cases h;rw [Den]at hd;exact hd
 ·cases h
theorem asS_ok {n:ByteArray} (h:asS s=some n) (hd:Den m ids s y):(CP.str n).p m y:=by
 unfold asS at h;split at h
 ·cases h;rw [Den]at hd;exact hd
 ·cases h
theorem as8_ok {n:UInt8} (h:as8 s=some n) (hd:Den m ids s y):(CP.w8 n).p m y:=by
 unfold as8 at h;split at h
 ·cases h;rw [Den]at hd;exact hd
 ·cases h
theorem as32_ok {n:UInt32} (h:as32 s=some n) (hd:Den m ids s y):(CP.w32 n).p m y:=by
 unfold as32 at h;split at h
 ·cases h;rw [Den]at hd;exact hd
 ·cases h
theorem as64_ok {n:UInt64} (h:as64 s=some n) (hd:Den m ids s y):(CP.jg n).p m y:=by
 unfold as64 at h;split at h
 ·cases h;rw [Den]at hd;exact hd
 ·cases h
theorem Rq {d:Nat} {l:Li d} (h:asL d s=some l) (hd:Den m ids s y):(CP.aW (KT d) (BT d) (eu d) l).p m y:=by
 unfold asL at h;split at h
 ·rename_i z c l';obtain⟨e,h⟩:=dU h;subst e;cases h;rw [Den]at hd;exact hd.anyZ
 ·cases h;rw [Den]at hd;subst hd;exact⟨[],⟨by simp,.inl ⟨⟨_,rfl⟩,rfl⟩⟩,eH.nil,fun h=>absurd rfl h,trivial,by simp⟩
 ·cases h
end
inductive C2
 |i
 |b
 |s
 |w8
 |w32
 |jg
 |l (c:Nat)
 |z (c:Nat)
@[reducible] def C2.c:C2->Cl
 |.i=>.i
 |.b=>.b
 |.s=>.s
 |.w8=>.w8
 |.w32=>.w32
 |.jg=>.jg
 |.l c=>.l (Tab.get c)
 |.z c=>.z (Tab.get c)
@[reducible] def cls:List C2->List Cl
 |[]=>[]
 |k::r=>k.c::cls r
def C2.sv:(k:C2)->k.c.T->SV
 |.i,x=>.i x
 |.b,x=>.b x
 |.s,x=>.str x
 |.w8,x=>.w8 x
 |.w32,x=>.w32 x
 |.jg,x=>.jg x
 |.l c,x=>.aW none c x
 |.z c,x=>.aW (some (List.isEmpty (α:=ah c) x)) c x
def C2.rd:(k:C2)->SV->Option k.c.T
 |.i,v=>asI v
 |.b,v=>asB v
 |.s,v=>asS v
 |.w8,v=>as8 v
 |.w32,v=>as32 v
 |.jg,v=>as64 v
 |.l c,v=>asL c v
 |.z _,_=>none
def hes:(ks:List C2)->HL (cls ks)->List SV
 |[],_=>[]
 |k::r,(a,q)=>k.sv a::hes r q
def hdc:(ks:List C2)->List SV->Option (HL (cls ks))
 |[],l=>match l with
   |[]=>some ()
   |_=>none
 |k::r,l=>match l with
   |[]=>none
   |s::q=>match k.rd s with
     |some x=>match hdc r q with
       |some p=>some (x,p)
       |none=>none
     |none=>none
section
variable {m:Mm} {ids:List Value} {us:List Value}
theorem Yj (c:Nat) (l:Li c) (y:Value):(CP.aW (KT c) (BT c) (eu c) l).p m y↔Den m ids (.aW none c l) y:=by rw [Den];exact Iff.rfl
theorem C2.iff (k:C2) (x:k.c.T) (y:Value):(k.c.cp x).p m y↔Den m ids (k.sv x) y:=by
 cases k<;>(unfold C2.sv;rw [Den];exact Iff.rfl)
theorem C2.Yc:∀ {k:C2} {v:SV} {x:k.c.T} {y:Value},k.rd v=some x->Den m ids v y->(k.c.cp x).p m y
 |.i,_,_,_,h,hd=>asI_ok h hd
 |.b,_,_,_,h,hd=>asB_ok h hd
 |.s,_,_,_,h,hd=>asS_ok h hd
 |.w8,_,_,_,h,hd=>as8_ok h hd
 |.w32,_,_,_,h,hd=>as32_ok h hd
 |.jg,_,_,_,h,hd=>as64_ok h hd
 |.l _,_,_,_,h,hd=>Rq h hd
 |.z _,_,_,_,h,_=>by cases h
theorem TK (p:HL (cls [])):hcp (cls []) p=[]:=rfl
theorem OA (k:C2) (r:List C2) (p:HL (cls (k::r))):hcp (cls (k::r)) p=k.c.cp p.1::hcp (cls r) p.2:=rfl
theorem EF:∀ (ks:List C2) (p:HL (cls ks)) {us:List Value},DL (hcp (cls ks) p) m us↔aC m ids (hes ks p) us
 |[],_,us=>by rw [hes,TK,DL,aC]
 |k::r,(a,q),us=>by
   rw [hes,OA,DL,aC];constructor
   ·rintro⟨u,us',h1,h2,h3⟩;exact⟨u,us',h1,(k.iff a u).1 h2,(EF r q).1 h3⟩
   ·rintro⟨u,us',h1,h2,h3⟩;exact⟨u,us',h1,(k.iff a u).2 h2,(EF r q).2 h3⟩
theorem ZX:∀ (ks:List C2) {l:List SV} {p:HL (cls ks)} {us:List Value},hdc ks l=some p->aC m ids l us->DL (hcp (cls ks) p) m us
 |[],l,p,us,h,hd=>by
   unfold hdc at h;split at h
   ·rw [aC]at hd;rw [TK,DL];exact hd
   ·cases h
 |k::r,l,p,us,h,hd=>by
   unfold hdc at h;split at h
   ·cases h
   ·split at h
    ·rename_i x hx;split at h
     ·rename_i q hq;cases h;rw [aC]at hd;obtain⟨u,us',h1,h2,h3⟩:=hd;rw [OA,DL];exact⟨u,us',h1,C2.Yc hx h2,ZX r hq h3⟩
     ·cases h
    ·cases h
theorem cp_va:∀ {k:Cl} {x:k.T} {y:Value},k.g=true->(k.cp x).p m y->y=k.va x
 |.i,_,_,_,h=>h.1
 |.b,_,_,_,h=>h
 |.s,_,_,_,h=>h.1
 |.w8,_,_,_,h=>h
 |.w32,_,_,_,h=>h
 |.jg,_,_,_,h=>h
 |.l _,_,_,h,_=>by cases h
 |.z _,_,_,h,_=>by cases h
theorem ZY:∀ (ks:List Cl) {p:HL ks} {us:List Value},hg ks=true->DL (hcp ks p) m us->us=hva ks p
 |[],_,us,_,h=>by unfold hcp at h;rw [DL]at h;exact h
 |k::r,p,us,hk,h=>by
   unfold hg at hk;split at hk
   ·rename_i h1;unfold hcp at h;rw [DL]at h;obtain⟨u,us',rfl,h2,h3⟩:=h;rw [cp_va h1 h2,ZY r hk h3];rfl
   ·cases hk
end
structure R2I (I:RI) where
 E:I.α->List SV
 C:List SV->Option I.α
 S:I.α->SV
 V:SV->Option I.α
 g:Bool
 Ei:∀ {m:Mm} {ids us:List Value} (x:I.α),DL (I.D x) m us↔aC m ids (E x) us
 Ci:∀ {m:Mm} {ids us:List Value} {l:List SV} {x:I.α},C l=some x->aC m ids l us->DL (I.D x) m us
 Vi:g=true->∀ {m:Mm} {ids:List Value} {s:SV} {x:I.α} {y:Value},V s=some x->Den m ids s y->y=I.V x/\DL (I.D x) m y.cells.toList
 rw:(d:Nat)->Li d->Option I.α
 rwi:∀ d l x,rw d l=some x->E x=[.aW none d l]
 Si:g=true->∀ {m:Mm} {ids:List Value} {x:I.α},DL (I.D x) m (I.V x).cells.toList->Den m ids (S x) (I.V x)
@[reducible] def R2 (c:Nat):=R2I (Tab.get c)
def aggC {α:Type} (F:List SV->Option α):SV->Option α
 |.agg l=>F l
 |_=>none
theorem Wo {α:Type} {F:List SV->Option α} {s:SV} {x:α} (h:aggC F s=some x):∃ l,s=.agg l/\F l=some x:=by
 cases s<;>first|exact⟨_,rfl,h⟩|cases h
def sES {α:Type} (ks:List C2) (I:Iso α (cls ks)) (x:α):List SV:=hes ks (I.un x)
def sDC {α:Type} (ks:List C2) (I:Iso α (cls ks)) (l:List SV):Option α:=match hdc ks l with
 |some p=>some (I.mk p)
 |none=>none
theorem XZ {m:Mm} {ids us:List Value} {α:Type} {ks:List C2} {I:Iso α (cls ks)} {l:List SV} {x:α} (h:sDC ks I l=some x) (hd:aC m ids l us):DL (hcp (cls ks) (I.un x)) m us:=by
 unfold sDC at h;split at h
 ·rename_i p hp;cases h;rw [I.um];exact ZX ks hp hd
 ·cases h
def rG {α:Type} {h:DecidableEq α} {K B:Nat} {z:α} {hB:1<=B} (ks:List C2) (I:Iso α (cls ks)) (hK:(cls ks).length=K:=by rfl):R2I (rF (cls ks) I K B z hK hB) where
 E:=sES ks I
 C:=sDC ks I
 S x:=.agg (sES ks I x)
 V:=aggC (sDC ks I)
 g:=hg (cls ks)
 Ei x:=EF ks _
 Ci h hd:=XZ h hd
 Vi hg' m ids s x y h hd:=by
   obtain⟨l,rfl,h⟩:=Wo h;rw [Den]at hd;obtain⟨us,rfl,hd⟩:=hd;have q:=XZ h hd;have e:=ZY _ hg' q;subst e;refine⟨?_,?_⟩
   ·show _=(match hg (cls ks)with|true=>_|false=>_);rw [hg']
   ·exact q
 rw _ _:=none
 rwi _ _ _ h:=by cases h
 Si hg' m ids x h:=by
   have hV:(match hg (cls ks)with
     |true=>Value.agg (hva (cls ks) (I.un x)).toArray
     |false=>.tuple #[])=Value.agg (hva (cls ks) (I.un x)).toArray:=by rw [hg']
   have h:DL (hcp (cls ks) (I.un x)) m (Value.cells (match hg (cls ks)with
     |true=>Value.agg (hva (cls ks) (I.un x)).toArray
     |false=>.tuple #[])).toList:=h
   show Den m ids _ (match hg (cls ks)with
     |true=>Value.agg (hva (cls ks) (I.un x)).toArray
     |false=>.tuple #[])
   rw [hV]at h ⊢;rw [Den];exact⟨_,rfl,(EF ks _).1 h⟩
def wG (e:Nat):R2I (vR (Tab.get e)) where
 E x:=[.aW none e x]
 C l:=match l with
   |[s]=>asL e s
   |_=>none
 S x:=.aW none e x
 V s:=asL e s
 g:=false
 Ei x:=by
   show DL [CP.aW (KT e) (BT e) (eu e) x] _ _↔_;rw [DL,aC];constructor
   ·rintro⟨u,us',h1,h2,h3⟩;rw [DL]at h3;exact⟨u,us',h1,(Yj e x u).1 h2,by rw [aC];exact h3⟩
   ·rintro⟨u,us',h1,h2,h3⟩;rw [aC]at h3;exact⟨u,us',h1,(Yj e x u).2 h2,by rw [DL];exact h3⟩
 Ci {m ids us l x} h hd:=by
   split at h
   ·rw [aC]at hd;obtain⟨u,us',h1,h2,h3⟩:=hd;rw [aC]at h3;show DL [CP.aW (KT e) (BT e) (eu e) x] _ _;rw [DL];exact⟨u,us',h1,Rq h h2,by rw [DL];exact h3⟩
   ·cases h
 Vi h:=by cases h
 rw d l:=jN d e l
 rwi d l x h:=by obtain⟨rfl,h⟩:=dU h;subst h;rfl
 Si h:=by cases h
def r2C {B:Nat} {hB:1<=B} (k:C2) {h:DecidableEq k.c.T} {z:k.c.T}:R2I (cRI k.c h B z hB) where
 E x:=[k.sv x]
 C l:=match l with
   |[s]=>k.rd s
   |_=>none
 S:=k.sv
 V:=k.rd
 g:=match k.c.g with
   |true=>true
   |false=>false
 Ei x:=by
   show DL [k.c.cp x] _ _↔_;rw [DL,aC];constructor
   ·rintro⟨u,us',h1,h2,h3⟩;rw [DL]at h3;exact⟨u,us',h1,(k.iff x u).1 h2,by rw [aC];exact h3⟩
   ·rintro⟨u,us',h1,h2,h3⟩;rw [aC]at h3;exact⟨u,us',h1,(k.iff x u).2 h2,by rw [DL];exact h3⟩
 Ci {m ids us l x} h hd:=by
   split at h
   ·rw [aC]at hd;obtain⟨u,us',h1,h2,h3⟩:=hd;rw [aC]at h3;show DL [k.c.cp x] _ _;rw [DL];exact⟨u,us',h1,C2.Yc h h2,by rw [DL];exact h3⟩
   ·cases h
 Vi hg m ids s x y h hd:=by
   have h1:(k.c.cp x).p m y:=C2.Yc h hd;have hk:k.c.g=true:=by revert hg;cases k.c.g<;>intro h<;>first|rfl|cases h
   have e:=cp_va hk h1;refine⟨e,?_⟩;show DL [k.c.cp x] _ _;have e2:y.cells.toList=[y]:=by rw [e];cases k<;>first|rfl|cases hk
   rw [e2,DL];exact⟨y,[],rfl,h1,by rw [DL]⟩
 rw _ _:=none
 rwi _ _ _ h:=by cases h
 Si hg m ids x h:=by
   have hk:k.c.g=true:=by revert hg;cases k.c.g<;>intro h<;>first|rfl|cases h
   have e2:(k.c.va x).cells.toList=[k.c.va x]:=by cases k<;>first|rfl|cases hk
   have h:DL [k.c.cp x] m (k.c.va x).cells.toList:=h;rw [e2,DL]at h;obtain⟨u,us,e,h1,_⟩:=h;cases e;exact(k.iff x _).1 h1
inductive RT2
 |lf
 |nd (l:RT2) (k:Nat) (v:R2 k) (r:RT2)
def RT2.get:RT2->(c:Nat)->Option (R2 c)
 |.lf,_=>none
 |.nd l k v r,c=>match Nat.decEq k c with
   |isTrue h=>some (h▸v)
   |isFalse _=>match Nat.blt c k with
     |true=>l.get c
     |false=>r.get c
def TJ0:R2 0:=r2C .i
def TJ1:R2 1:=r2C .s
def TJ2:R2 2:=r2C .b
def TJ3:R2 3:=r2C .w8
def TJ4:R2 4:=r2C .w32
def TJ5:R2 5:=r2C .jg
def TJ6:R2 6:=rG [.i,.i,.i,.i] _
def TJ7:R2 7:=rG [.i,.i,.i,.i,.i,.i,.i] _
def TJ8:R2 8:=wG 7
def TJ9:R2 9:=rG [.s,.i,.i,.i] _
def TJ10:R2 10:=wG 9
def TJ11:R2 11:=rG [.i,.i,.s,.i] _
def TJ12:R2 12:=wG 11
def TJ13:R2 13:=rG [.i,.i,.i,.s,.s,.i] _
def TJ14:R2 14:=wG 13
def TJ15:R2 15:=rG [.i,.i,.s,.i,.i,.i,.i,.i,.i] _
def TJ16:R2 16:=wG 15
def TJ17:R2 17:=rG [.i,.i,.i,.i] _
def TJ18:R2 18:=wG 17
def TJ19:R2 19:=rG [.s,.s,.i,.i,.i,.s,.l 7,.l 9,.l 11,.l 13,.l 15,.l 17] _
def TJ20:R2 20:=wG 19
def TJ21:R2 21:=rG [.s,.s,.i,.b,.b] _
def TJ22:R2 22:=wG 21
def TJ23:R2 23:=rG [.s,.s,.b,.i,.i,.i,.i] _
def TJ24:R2 24:=wG 23
def TJ25:R2 25:=wG 6
def TJ26:R2 26:=wG 1
def TJ27:R2 27:=rG [.s,.l 1] _
def TJ28:R2 28:=wG 27
def TJ29:R2 29:=rG [.i,.i,.i] _
def TJ30:R2 30:=wG 29
def TJ31:R2 31:=rG [.i,.s,.l 29,.i,.i,.i,.i] _
def TJ32:R2 32:=wG 31
def TJ33:R2 33:=rG [.s,.b,.l 19,.l 21,.l 23,.l 6,.l 6,.l 1,.i,.i,.i,.i,.l 27,.l 31] _
def TJ34:R2 34:=wG 0
def TJ35:R2 35:=rG [.i,.i,.i,.i] _
def TJ36:R2 36:=wG 35
def TJ37:R2 37:=rG [.l 0,.l 0,.l 35,.i,.i,.i,.i] _
def TJ38:R2 38:=rG [.s,.s,.i,.i,.i,.s,.s] _
def TJ39:R2 39:=wG 38
def TJ40:R2 40:=rG [.s,.s,.b,.i,.i,.i] _
def TJ41:R2 41:=wG 40
def TJ42:R2 42:=rG [.i,.i,.i,.i] _
def TJ43:R2 43:=wG 42
def TJ44:R2 44:=rG [.i,.i] _
def TJ45:R2 45:=wG 44
def TJ46:R2 46:=rG [.i,.i,.i,.s,.i,.i] _
def TJ47:R2 47:=wG 46
def TJ48:R2 48:=rG [.l 9,.l 11,.l 44,.l 13,.l 46,.l 17] _
def TJ49:R2 49:=rG [.s,.s,.s,.l 29,.i] _
def TJ50:R2 50:=wG 49
def TJ51:R2 51:=rG [.s,.b,.i,.i,.i,.s,.s,.i,.l 38,.l 40,.l 21,.l 0,.l 0,.l 42,.l 0,.l 0,.i,.l 1,.l 27,.l 9,.l 11,.l 44,.l 13,.l 46,.l 17,.l 49] _
def TJ52:R2 52:=wG 3
def TJ53:R2 53:=rG [.i,.i,.i,.i,.i] _
def TJ54:R2 54:=rG [.i,.i,.z 0] _
def TJ55:R2 55:=rG [.s,.b,.l 19,.l 21,.l 23,.l 6,.l 6,.l 1,.i,.i,.i,.i,.l 27,.l 31] _
def TJ56:R2 56:=rG [.l 44,.b] _
def TJ57:R2 57:=rG [.i,.i,.i,.i] _
def TJ58:R2 58:=rG [.i,.i,.i,.i,.i,.i,.i,.i] _
def TJ59:R2 59:=wG 58
def TJ60:R2 60:=rG [.s,.s] _
def TJ61:R2 61:=rG [.s,.i,.i,.i,.s,.b] _
def TJ62:R2 62:=wG 61
def TJ63:R2 63:=rG [.s,.s,.b,.i,.i,.i,.i,.i,.i,.i] _
def TJ64:R2 64:=wG 63
def TJ65:R2 65:=rG [.i,.i,.i,.i,.i] _
def TJ66:R2 66:=wG 65
def TJ67:R2 67:=rG [.s,.l 0] _
def TJ68:R2 68:=wG 67
def TJ69:R2 69:=rG [.i,.i,.b] _
def TJ70:R2 70:=wG 69
def TJ71:R2 71:=rG [.i,.s,.l 29,.i] _
def TJ72:R2 72:=wG 71
def TJ73:R2 73:=rG [.s,.l 61,.l 63,.l 65,.l 67,.l 69,.l 11,.l 13,.l 46,.l 17,.l 71] _
def TJ74:R2 74:=wG 2
def TJ75:R2 75:=rG [.i,.i,.i,.i,.i,.i,.i] _
def TJ76:R2 76:=rG [.s,.s,.s,.s] _
def TJ77:R2 77:=rG [.i,.i] _
def TJ78:R2 78:=rG [.i,.i] _
def TJ79:R2 79:=wG 78
def TJ80:R2 80:=rG [.s,.l 61,.l 63,.l 65,.l 67,.l 69,.l 11,.l 13,.l 46,.l 17,.l 71] _
def TJ81:R2 81:=wG 5
def TJ82:R2 82:=wG 34
def TJ83:R2 83:=rG [.l 34,.l 0,.l 0,.l 0,.l 0,.l 34] _
def TJ84:R2 84:=rG [.i,.i] _
def TJ85:R2 85:=wG 84
def Wu:RT2:=(.nd (.nd (.nd (.nd (.nd (.nd (.nd .lf 0 TJ0 .lf) 1 TJ1 .lf) 2 TJ2 (.nd (.nd .lf 3 TJ3 .lf) 4 TJ4 .lf)) 5 TJ5 (.nd (.nd (.nd .lf 6 TJ6 .lf) 7 TJ7 .lf) 8 TJ8 (.nd .lf 9 TJ9 .lf))) 10 TJ10 (.nd (.nd (.nd (.nd .lf 11 TJ11 .lf) 12 TJ12 .lf) 13 TJ13 (.nd (.nd .lf 14 TJ14 .lf) 15 TJ15 .lf)) 16 TJ16 (.nd (.nd (.nd .lf 17 TJ17 .lf) 18 TJ18 .lf) 19 TJ19 (.nd .lf 20 TJ20 .lf)))) 21 TJ21 (.nd (.nd (.nd (.nd (.nd .lf 22 TJ22 .lf) 23 TJ23 .lf) 24 TJ24 (.nd (.nd .lf 25 TJ25 .lf) 26 TJ26 .lf)) 27 TJ27 (.nd (.nd (.nd .lf 28 TJ28 .lf) 29 TJ29 .lf) 30 TJ30 (.nd .lf 31 TJ31 .lf))) 32 TJ32 (.nd (.nd (.nd (.nd .lf 33 TJ33 .lf) 34 TJ34 .lf) 35 TJ35 (.nd (.nd .lf 36 TJ36 .lf) 37 TJ37 .lf)) 38 TJ38 (.nd (.nd (.nd .lf 39 TJ39 .lf) 40 TJ40 .lf) 41 TJ41 (.nd .lf 42 TJ42 .lf))))) 43 TJ43 (.nd (.nd (.nd (.nd (.nd (.nd .lf 44 TJ44 .lf) 45 TJ45 .lf) 46 TJ46 (.nd (.nd .lf 47 TJ47 .lf) 48 TJ48 .lf)) 49 TJ49 (.nd (.nd (.nd .lf 50 TJ50 .lf) 51 TJ51 .lf) 52 TJ52 (.nd .lf 53 TJ53 .lf))) 54 TJ54 (.nd (.nd (.nd (.nd .lf 55 TJ55 .lf) 56 TJ56 .lf) 57 TJ57 (.nd (.nd .lf 58 TJ58 .lf) 59 TJ59 .lf)) 60 TJ60 (.nd (.nd (.nd .lf 61 TJ61 .lf) 62 TJ62 .lf) 63 TJ63 (.nd .lf 64 TJ64 .lf)))) 65 TJ65 (.nd (.nd (.nd (.nd (.nd .lf 66 TJ66 .lf) 67 TJ67 .lf) 68 TJ68 (.nd (.nd .lf 69 TJ69 .lf) 70 TJ70 .lf)) 71 TJ71 (.nd (.nd (.nd .lf 72 TJ72 .lf) 73 TJ73 .lf) 74 TJ74 (.nd .lf 75 TJ75 .lf))) 76 TJ76 (.nd (.nd (.nd (.nd .lf 77 TJ77 .lf) 78 TJ78 .lf) 79 TJ79 (.nd .lf 80 TJ80 .lf)) 81 TJ81 (.nd (.nd (.nd .lf 82 TJ82 .lf) 83 TJ83 .lf) 84 TJ84 (.nd .lf 85 TJ85 .lf))))))
def ES (c:Nat) (x:ah c):Option (List SV):=match Wu.get c with
 |some q=>some (q.E x)
 |none=>none
def DC (c:Nat) (l:List SV):Option (ah c):=match Wu.get c with
 |some q=>q.C l
 |none=>none
def VS (c:Nat) (x:ah c):SV:=match Wu.get c with
 |some q=>q.S x
 |none=>.un
def DV (c:Nat) (s:SV):Option (ah c):=match Wu.get c with
 |some q=>q.V s
 |none=>none
def RW (c d:Nat) (l:Li d):Option (ah c):=match Wu.get c with
 |some q=>q.rw d l
 |none=>none
theorem RW_ok {c d:Nat} {l:Li d} {x:ah c} (h:RW c d l=some x):ES c x=some [.aW none d l]:=by
 unfold RW at h;unfold ES;split at h
 ·rename_i q hq;show some (q.E x)=_;rw [q.rwi d l x h]
 ·cases h
def gnd (c:Nat):Bool:=match Wu.get c with
 |some q=>q.g
 |none=>false
theorem nI {m:Mm} {ids us:List Value} (c:Nat) (x:ah c) {l:List SV} (h:ES c x=some l):DL (eu c x) m us↔aC m ids l us:=by
 unfold ES at h;split at h
 ·rename_i q _;cases h;exact q.Ei x
 ·cases h
theorem Po {m:Mm} {ids us:List Value} (c:Nat) {l:List SV} {x:ah c} (h:DC c l=some x) (hd:aC m ids l us):DL (eu c x) m us:=by
 unfold DC at h;split at h
 ·rename_i q _;exact q.Ci h hd
 ·cases h
theorem GV {m:Mm} {ids:List Value} (c:Nat) (hg:gnd c=true) {s:SV} {x:ah c} {y:Value} (h:DV c s=some x) (hd:Den m ids s y):y=TV c x/\DL (eu c x) m y.cells.toList:=by
 unfold DV at h;unfold gnd at hg;split at h
 ·rename_i q hq;rw [hq]at hg;exact q.Vi hg h hd
 ·cases h
theorem VS_ok {m:Mm} {ids:List Value} (c:Nat) (hg:gnd c=true) {x:ah c} (h:DL (eu c x) m (TV c x).cells.toList):Den m ids (VS c x) (TV c x):=by
 unfold VS;unfold gnd at hg;split
 ·rename_i q hq;rw [hq]at hg;exact q.Si hg h
 ·rw [Den];trivial
inductive HB:Type
 |row (T:TypeId) (cells:List SV)
 |Hy (T:TypeId) (cells:List SV)
 |arr (T:TypeId) (z:Option Bool) (c:Nat) (l:Li c)
 |far (z:Option Bool) (c:Nat) (l:Li c)
 |vec (T:TypeId) (N c:Nat) (l:Li c)
 |mp (k v:Nat) (l:List (ah k×ah v))
 |p8 (T T' c' c:Nat) (l:Li c') (h:Option (Int×Nat))
 |NW (z:Option Bool) (c:Nat) (l:Li c)
 |ext (own:Bool) (A:World->(Nat->Prop)->Value->Prop)
 |gone
abbrev Path:=List (Nat×Bool)
structure St where
 env:List (Nat×SV)
 gen:List (Nat×(Path×SV))
 kn:List (Nat×Bool)
 heap:List (Nat×HB)
 nb:Nat
 n0:Nat
section
universe u
def lk {α:Type u}:List (Nat×α)->Nat->Option α
 |[],_=>none
 |(k,v)::r,t=>match Nat.beq k t with
   |true=>some v
   |false=>lk r t
theorem bG {α:Type u} {k t:Nat} {v:α} {r:List (Nat×α)}:lk ((k,v)::r) t=if k=t then some v else lk r t:=by
 simp only [lk]
 by_cases h:k=t
 ·subst h;simp
 ·have:Nat.beq k t=false:=by
    cases hb:Nat.beq k t with
    |false=>rfl
    |true=>exact absurd (Nat.eq_of_beq_eq_true hb) h
  simp [this,h]
end
def HB.own:HB->Bool
 |.row .. | .arr .. | .vec .. | .mp .. | .p8 ..=>true
 |.ext b _=>b
 |_=>false
def hasB (v:Value) (b:Nat):Prop:=match v with
 |.tuple us=>∃ u∈us.toList,jI u=some b
 |v=>jI v=some b
theorem qj {v:Value} {b:Nat} (h:jI v=some b):hasB v b:=by
 cases v<;>first|exact h|cases h
theorem qR {v:Value} {b:Nat} (h1:v.oneCell'=true) (h:hasB v b):jI v=some b:=by
 cases v<;>first|exact h|cases h1
def RowOK (m:Mm) (T' c' c:Nat) (x:ah c') (v:Value):Prop:=∃ (l:Li c) (bC:List (List Value)),ES c' x=some [.aW none c l]/\gU m.w 0 T' (KT c) v l.length bC.flatten/\eH (KT c) (eu c) m l bC/\l.length*BT c<=WS
structure NstOK (m:Mm) (ids:List Value) (T T' c' c:Nat) (ls:Li c') (h:Option (Int×Nat)) (v:Value) (vs us:List Value):Prop where
 out:gU m.w 0 T 1 v ls.length us
 len:vs.length=ls.length
 K1:KT c'=1
 B:ls.length*BT c'<=WS
 row:∀ (r:Nat) x,ls[r]?=some x->(∀ k j,h=some (k,j)->r≠k.toNat)->∃ u,vs[r]?=some u/\us[r]?=some u/\RowOK m T' c' c x u
 hole:∀ k j,h=some (k,j)->0<=k/\k.toNat<ls.length/\vs[k.toNat]?=some (.slice none 0 0)/\∃ u,us[k.toNat]?=some u/\ids[j]?=some u/\u.oneCell'=true
 sep:∀ (r s:Nat) (u u':Value) (b:Nat),(v::vs)[r]?=some u->(v::vs)[s]?=some u'->r≠s->jI u=some b->jI u'≠some b
def AOK (own:Bool) (A:World->(Nat->Prop)->Value->Prop):Prop :=
 ∀ m m':Mm,m.le m'->∀ v,(own=true->∀ b,hasB v b->b<m.w.heap.size->m'.w.heap[b]?=m.w.heap[b]?)->A m.w m.S v->A m'.w m'.S v
def jG (m:Mm) (ids:List Value) (i:Nat):HB->Prop
 |.row T cs=>∃ b vs,ids[i]?=some (.pointer (some ⟨b,0,none⟩))/\Row m.w b T vs/\aC m ids cs vs
 |.Hy T cs=>∃ b vs,ids[i]?=some (.pointer (some ⟨b,0,none⟩))/\Row m.w b T vs/\aC m ids cs vs/\m.S b
 |.arr T z c l=>∃ v bC,ids[i]?=some v/\gU m.w 0 T (KT c) v l.length bC.flatten/\eH (KT c) (eu c) m l bC/\AR z v/\l.length*BT c<=WS
 |.far z c l=>∃ v,ids[i]?=some v/\LD (KT c) (BT c) (eu c) z l m v
 |.vec T N c l=>∃ (b:Nat) (bC:List (List Value)),ids[i]?=some (.pointer (some ⟨b,0,none⟩))/\Row m.w b T bC.flatten/\eH (KT c) (eu c) m l bC/\l.length=N
 |.mp kc vc l=>∃ b,ids[i]?=some (.map (some b))/\sM m.w b (TV kc) (l.map fun p=>(p.1,TV vc p.2))/\∀ p∈l,DL (eu vc p.2) m (TV vc p.2).cells.toList
 |.p8 T T' c' c ls h=>∃ v vs us,ids[i]?=some (.tuple (v::vs).toArray)/\NstOK m ids T T' c' c ls h v vs us
 |.NW z c l=>∃ v vs,ids[i]?=some (.tuple (v::vs).toArray)/\LD (KT c) (BT c) (eu c) z l m v
 |.ext own A=>∃ v,ids[i]?=some v/\AOK own A/\(own=true->∀ b,hasB v b->b<m.w.heap.size)/\A m.w m.S v
 |.gone=>True
def Fp (ids:List Value) (i:Nat) (hb:HB) (b:Nat):Prop:=hb.own=true/\∃ v,ids[i]?=some v/\hasB v b
structure pQ (m:Mm) (ids:List Value) (H:List (Nat×HB)):Prop where
 sat:∀ i hb,lk H i=some hb->jG m ids i hb
 sep:∀ i hb j hb',lk H i=some hb->lk H j=some hb'->i≠j->∀ b,Fp ids i hb b->¬ Fp ids j hb' b
 vG:∀ i hb b,lk H i=some hb->Fp ids i hb b->¬ m.S b
def Holds (a:Act) (π:Path):Prop:=∀ g∈π,a.tmps.getD g.1 undef=.bool g.2
structure Cx where
 dl:List Deferred
 N:Nat
 w0:World
 T0:Nat->Prop
 S0:Nat->Prop
 Ec:List Value
 G:Nat->Option SV
def lU (G:Nat->Option SV) (m:Mm):Prop:=∀ g s,G g=some s->Den m [] s (.pointer (some ⟨g,0,none⟩))
theorem lU.le {G:Nat->Option SV} {m m':Mm} (h:lU G m) (hm:m.le m'):lU G m':=fun g s hg=>Den.le hm s (h g s hg)
structure SatH (C:Cx) (σ:St) (m:Mm) (ids:List Value):Prop where
 len:ids.length=σ.nb
 heap:pQ m ids σ.heap
 low:∀ i hb b,lk σ.heap i=some hb->Fp ids i hb b->C.T0 b\/C.w0.heap.size<=b
 S0:∀ b,C.S0 b->m.S b
 S:∀ b,m.S b->b<m.w.heap.size/\(C.S0 b\/C.T0 b\/C.w0.heap.size<=b)
 mod:Mod C.T0 C.w0 m.w
 oH:lU C.G m
 n0:C.Ec.length=σ.n0
 pre:∀ i,i<σ.n0->ids[i]?=C.Ec[i]?
structure SatF (C:Cx) (σ:St) (m:Mm) (ids:List Value) (a:Act):Prop where
 size:a.tmps.size=C.N
 defers:a.defers=C.dl
 env:∀ t s,lk σ.env t=some s->t<C.N/\Den m ids s (a.tmps.getD t undef)
 gen:∀ t π s,lk σ.gen t=some (π,s)->t<C.N/\(Holds a π->Den m ids s (a.tmps.getD t undef))/\(¬ Holds a π->a.tmps.getD t undef=undef)
 kn:∀ s b,lk σ.kn s=some b->a.tmps.getD s undef=.bool b
structure Sat (C:Cx) (σ:St) (m:Mm) (ids:List Value) (a:Act):Prop extends SatH C σ m ids,SatF C σ m ids a
section
variable {C:Cx} {σ:St} {m m':Mm} {ids:List Value} {a:Act}
theorem LU {w:World} {e:TypeId} {K n b:Nat} {v:Value} {xs:List Value} (h:gU w 0 e K v n xs) (hb:jI v=some b):b<w.heap.size:=by
 cases v with
 |slice x n c=>cases x with
   |none=>cases hb
   |some x=>exact(h.lt b hb).2
 |_=>obtain⟨_,_,h5,_⟩:=h.reads.len;cases h5
theorem yu {w:World} {e:TypeId} {K n base:Nat} {v:Value} {xs:List Value} (h:gU w base e K v n xs):v.oneCell'=true:=by
 obtain⟨_,_,rfl,_⟩:=h.reads.len;rfl
theorem rW {i:Nat} {hb:HB} {b:Nat} (h:jG m ids i hb) (hf:Fp ids i hb b):b<m.w.heap.size:=by
 obtain⟨ho,v,h1,h2⟩:=hf;cases hb<;>simp only [HB.own]at ho<;>try (cases ho;done)
 case row T cs =>
   obtain⟨b',vs,h3,h4,_⟩:=h;rw [h3]at h1;cases h1;cases h2;exact h4.lt
 case arr =>
   obtain⟨v',bC,h3,h4,_⟩:=h;rw [h3]at h1;cases h1;exact LU h4 (qR (yu h4) h2)
 case vec =>
   obtain⟨b',vs,h3,h4,_⟩:=h;rw [h3]at h1;cases h1;cases h2;exact h4.lt
 case mp =>
   obtain⟨b',h3,h4,_⟩:=h;rw [h3]at h1;cases h1;cases h2;exact h4.lt
 case p8 =>
   obtain⟨v',vs,us,h3,h4⟩:=h;rw [h3]at h1;cases h1;obtain⟨u,hu,hb⟩:=h2;simp only [List.mem_cons]at hu;rcases hu with rfl|hu
   ·exact LU h4.out hb
   ·obtain⟨r,hr,rfl⟩:=List.getElem_of_mem hu;rename_i T T' c' c ls h;have hrl:r<ls.length:=by rw [<- h4.len];exact hr
    by_cases hh:∀ k j,h=some (k,j)->r≠k.toNat
    ·obtain⟨u,q1,_,l,bC,_,q2,_⟩:=h4.row r _ (bZ hrl) hh;rw [bZ hr]at q1;cases q1;exact LU q2 hb
    ·simp only [Classical.not_forall]at hh;obtain⟨k,j,e,hk⟩:=hh;have hk:r=k.toNat:=Classical.not_not.1 hk;obtain⟨_,_,q1,_⟩:=h4.hole k j e;rw [<- hk,bZ hr]at q1;rw [Option.some.inj q1]at hb;cases hb
 case ext own A =>
   obtain⟨v',h3,_,h5,_⟩:=h;rw [h3]at h1;cases h1;exact h5 ho b h2
theorem yw {w w':World} {base:Nat} {e:TypeId} {size n:Nat} {v:Value} {xs:List Value} (h:gU w base e size v n xs) (hs:∀ b,jI v=some b->w'.heap[b]?=w.heap[b]?):gU w' base e size v n xs:=by
 refine⟨h.1,?_⟩;rcases h.2 with h2|⟨g,o,cap,cur,hv,hg,hh,r⟩
 ·exact .inl h2
 ·exact .inr ⟨g,o,cap,cur,hv,hg,hh.same (hs g (by rw [hv];rfl)),r⟩
theorem jG.le {i:Nat} {hb:HB} (hm:m.le m') (h:jG m ids i hb) (hs:∀ b,Fp ids i hb b->m'.w.heap[b]?=m.w.heap[b]?):jG m' ids i hb:=by
 cases hb with
 |row T cs =>
   obtain⟨b,vs,h3,h4,h5⟩:=h;exact⟨b,vs,h3,(hs b ⟨rfl,_,h3,rfl⟩).trans h4,aC.le hm _ h5⟩
 |Hy T cs =>
   obtain⟨b,vs,h3,h4,h5,h6⟩:=h;exact⟨b,vs,h3,(hm.S b h6).2.trans h4,aC.le hm _ h5,(hm.S b h6).1⟩
 |arr =>
   obtain⟨v,bC,h3,h4,h5,h6⟩:=h;exact⟨v,bC,h3,yw h4 fun b hb=>hs b ⟨rfl,_,h3,qj hb⟩,h5.le hm,h6⟩
 |far =>
   obtain⟨v,h3,h4⟩:=h;exact⟨v,h3,h4.le hm⟩
 |vec =>
   obtain⟨b,bC,h3,h4,h5⟩:=h;exact⟨b,bC,h3,(hs b ⟨rfl,_,h3,rfl⟩).trans h4,h5.1.le hm,h5.2⟩
 |mp =>
   obtain⟨b,h3,⟨es,ck,h4,h5⟩,h6⟩:=h;exact⟨b,h3,⟨es,ck,(hs b ⟨rfl,_,h3,rfl⟩).trans h4,h5⟩,fun p hp=>(h6 p hp).le hm⟩
 |ext own A =>
   obtain⟨v,h3,h4,h5,h6⟩:=h;exact⟨v,h3,h4,fun ho b hb=>Nat.lt_of_lt_of_le (h5 ho b hb) hm.size,h4 m m' hm v (fun ho b hb _=>hs b ⟨ho,v,h3,hb⟩) h6⟩
 |p8 =>
   obtain⟨v,vs,us,h3,h4⟩:=h;refine⟨v,vs,us,h3,yw h4.out (fun b hb=>hs b ⟨rfl,_,h3,v,by simp,hb⟩),h4.len,h4.K1,h4.B,fun r x hr hh=>?_,h4.hole,h4.sep⟩
   obtain⟨u,h5,h6,l,bC,h7,h8,h9,h10⟩:=h4.row r x hr hh;exact⟨u,h5,h6,l,bC,h7,yw h8 fun b hb=>hs b ⟨rfl,_,h3,u,by simp [List.mem_of_getElem? h5],hb⟩,h9.le hm,h10⟩
 |NW =>
   obtain⟨v,vs,h3,h4⟩:=h;exact⟨v,vs,h3,h4.le hm⟩
 |gone=>exact True.intro
theorem pQ.le {H:List (Nat×HB)} (h:pQ m ids H) (hm:m.le m') (hs:∀ i hb b,lk H i=some hb->Fp ids i hb b->m'.w.heap[b]?=m.w.heap[b]?/\¬ m'.S b):pQ m' ids H :=
 ⟨fun i hb hi=>(h.sat i hb hi).le hm fun b hf=>(hs i hb b hi hf).1,h.sep,fun i hb b hi hf=>(hs i hb b hi hf).2⟩
theorem Ext.le {w w':World} {S:Nat->Prop} (h:Ext w w') (hS:∀ b,S b->b<w.heap.size):(⟨w,S⟩:Mm).le ⟨w',S⟩:=⟨fun b hb=>⟨hb,h.block b (hS b hb)⟩,h.size⟩
theorem SatH.ext {w':World} (h:SatH C σ m ids) (he:Ext m.w w'):SatH C σ ⟨w',m.S⟩ ids:=by
 refine⟨h.len,h.heap.le (Ext.le (S:=m.S) he fun b hb=>(h.S b hb).1) fun i hb b hi hf=>⟨he.block b (rW (h.heap.sat i hb hi) hf),h.heap.vG i hb b hi hf⟩,h.low,h.S0,fun b hb=>⟨Nat.lt_of_lt_of_le (h.S b hb).1 he.size,(h.S b hb).2⟩,h.mod.trans (he.mod _),h.oH.le (Ext.le (S:=m.S) he fun b hb=>(h.S b hb).1),h.n0,h.pre⟩
theorem SatF.le (h:SatF C σ m ids a) (hm:m.le m'):SatF C σ m' ids a :=
 ⟨h.size,h.defers,fun t s hl=>⟨(h.env t s hl).1,Den.le hm _ (h.env t s hl).2⟩,fun t π s hl=>⟨(h.gen t π s hl).1,fun hh=>Den.le hm _ ((h.gen t π s hl).2.1 hh),(h.gen t π s hl).2.2⟩,h.kn⟩
theorem SatF.app (h:SatF C σ m ids a) (e:List Value):SatF C σ m (ids++e) a :=
 ⟨h.size,h.defers,fun t s hl=>⟨(h.env t s hl).1,Den.app e _ (h.env t s hl).2⟩,fun t π s hl=>⟨(h.gen t π s hl).1,fun hh=>Den.app e _ ((h.gen t π s hl).2.1 hh),(h.gen t π s hl).2.2⟩,h.kn⟩
theorem SatF.of {σ':St} (h:SatF C σ m ids a) (he:σ'.env=σ.env) (hg:σ'.gen=σ.gen) (hk:σ'.kn=σ.kn):SatF C σ' m ids a :=
 ⟨h.size,h.defers,by rw [he];exact h.env,by rw [hg];exact h.gen,by rw [hk];exact h.kn⟩
theorem Sat.ext {w':World} (h:Sat C σ m ids a) (he:Ext m.w w'):Sat C σ ⟨w',m.S⟩ ids a :=
 ⟨h.toSatH.ext he,h.toSatF.le (Ext.le (S:=m.S) he fun b hb=>(h.S b hb).1)⟩
end
def Gy (t:Nat):Path->Bool
 |[]=>true
 |(s,_)::r=>match Nat.beq s t with
   |true=>false
   |false=>Gy t r
def MI (t:Nat):List (Nat×(Path×SV))->Bool
 |[]=>true
 |(s,(π,_))::r=>match Nat.beq s t with
   |true=>false
   |false=>match Gy t π with
     |true=>MI t r
     |false=>false
def MH (t:Nat):List (Nat×Bool)->Bool
 |[]=>true
 |(s,_)::r=>match Nat.beq s t with
   |true=>false
   |false=>MH t r
def fresh (σ:St) (d:Option Tmp):Bool:=match d with
 |none=>true
 |some t=>match MI t σ.gen with
   |true=>MH t σ.kn
   |false=>false
theorem wQ {t:Nat}:∀ {π:Path},Gy t π=true->∀ g∈π,g.1≠t
 |[],_,_,h=>by cases h
 |(s,b)::r,h,g,hg=>by
   simp only [Gy]at h;split at h
   ·cases h
   ·rename_i hb;have hne:s≠t:=fun e=>by subst e;simp at hb
    rcases List.mem_cons.1 hg with rfl|hg
    ·exact hne
    ·exact wQ h g hg
theorem xu {t:Nat}:∀ {l:List (Nat×(Path×SV))},MI t l=true->∀ s π x,lk l s=some (π,x)->s≠t/\∀ g∈π,g.1≠t
 |[],_,_,_,_,h=>by cases h
 |(s',(π',x'))::r,h,s,π,x,hl=>by
   simp only [MI]at h;split at h
   ·cases h
   ·rename_i hb;have hne:s'≠t:=fun e=>by subst e;simp at hb
    split at h
    ·rename_i hp;rw [bG]at hl;split at hl
     ·rename_i e;cases hl;subst e;exact⟨hne,wQ hp⟩
     ·exact xu h s π x hl
    ·cases h
theorem xq {t:Nat}:∀ {l:List (Nat×Bool)},MH t l=true->∀ s x,lk l s=some x->s≠t
 |[],_,_,_,h=>by cases h
 |(s',x')::r,h,s,x,hl=>by
   simp only [MH]at h;split at h
   ·cases h
   ·rename_i hb;rw [bG]at hl;split at hl
    ·rename_i e;subst e;exact fun e=>by subst e;simp at hb
    ·exact xq h s x hl
def eX (σ:St) (d:Option Tmp) (s:SV):St:=match d with
 |none=>σ
 |some t=>{ σ with env:=(t,s)::σ.env }
def Fz (σ:St) (d:Option Tmp) (π:Path) (s:SV):St:=match d with
 |none=>σ
 |some t=>{ σ with gen:=(t,(π,s))::σ.gen }
section
variable {C:Cx} {σ:St} {m m':Mm} {ids:List Value} {a:Act}
theorem rQ {t u:Nat} {v:Value} (h:t≠u):(a.put (some t) v).tmps.getD u undef=a.tmps.getD u undef:=by
 simp only [Act.put,Array.getD_eq_getD_getElem?,Array.getElem?_setIfInBounds_ne h]
theorem NM {t:Nat} {v:Value} (h:t<a.tmps.size):(a.put (some t) v).tmps.getD t undef=v:=by
 simp [Act.put,Array.getD_eq_getD_getElem?,h]
theorem Dc {t:Nat} {v:Value} {π:Path} (h:∀ g∈π,g.1≠t):Holds (a.put (some t) v) π↔Holds a π:=by
 constructor
 ·intro hh g hg;have:=hh g hg
  rwa [rQ (fun e=>h g hg e.symm)]at this
 ·intro hh g hg;rw [rQ (fun e=>h g hg e.symm)]
  exact hh g hg
theorem dlt {t N:Nat} (h:o7 (some t) N=true):t<N:=by simpa [o7] using h
theorem SatF.put (h:SatF C σ m ids a) {d:Option Tmp} (hd:o7 d C.N=true) (hf:fresh σ d=true) {s:SV} {v:Value} (hv:Den m ids s v):SatF C (eX σ d s) m ids (a.put d v):=by
 cases d with
 |none=>exact h
 |some t =>
   have ht:=dlt hd;have hts:t<a.tmps.size:=by rw [h.size];exact ht
   simp only [fresh]at hf;split at hf
   ·rename_i hg;refine⟨by simp [Act.put,h.size],h.defers,fun u x hu=>?_,fun u π x hu=>?_,fun u b hu=>?_⟩
    ·simp only [eX,bG]at hu;split at hu
     ·rename_i e;subst e;cases hu;rw [NM hts];exact⟨ht,hv⟩
     ·rename_i e;rw [rQ e];exact h.env u x hu
    ·obtain⟨h1,h2⟩:=xu hg u π x hu;rw [rQ (Ne.symm h1)];rw [Dc h2];exact h.gen u π x hu
    ·rw [rQ (Ne.symm (xq hf u b hu))];exact h.kn u b hu
   ·cases hf
theorem SatF.putG (h:SatF C σ m ids a) {d:Option Tmp} (hd:o7 d C.N=true) (hf:fresh σ d=true) {π:Path} (hn:∀ t,d=some t->∀ g∈π,g.1≠t) {s:SV} {v:Value} (hv:Holds a π->Den m ids s v) (hv':¬ Holds a π->v=undef):SatF C (eX (Fz σ d π s) d .un) m ids (a.put d v):=by
 cases d with
 |none=>exact h
 |some t =>
   have ht:=dlt hd;have hts:t<a.tmps.size:=by rw [h.size];exact ht
   simp only [fresh]at hf;split at hf
   ·rename_i hg;refine⟨by simp [Act.put,h.size],h.defers,fun u x hu=>?_,fun u π' x hu=>?_,fun u b hu=>?_⟩
    ·simp only [eX,Fz,bG]at hu;split at hu
     ·rename_i e;subst e;cases hu;exact⟨ht,by rw [Den];trivial⟩
     ·rename_i e;rw [rQ e];exact h.env u x hu
    ·simp only [eX,Fz,bG]at hu;split at hu
     ·rename_i e;subst e;cases hu;rw [NM hts,Dc (hn t rfl)];exact⟨ht,hv,hv'⟩
     ·rename_i e;obtain⟨h1,h2⟩:=xu hg u π' x hu;rw [rQ e,Dc h2];exact h.gen u π' x hu
    ·rw [rQ (Ne.symm (xq hf u b hu))];exact h.kn u b hu
   ·cases hf
end
end Go.SX
