/- A part of the proof (texts Map, Rec, SB). -/
import Derived.RangeFuncRecord
import Derived.Test.YtobpljbkdffkbaaGreatP02
set_option linter.all false
set_option maxRecDepth 100000
namespace Go.XK
open Go.RowKit
section
variable {α:Type}
def mfind [DecidableEq α]:List (α×Value)→α→Option (Nat×Value)
 |[],_=>none
 |(a,u)::r,k=>if(k==a)=true then some (0,u)else(mfind r k).map fun p=>(p.1+1,p.2)
def mget [DecidableEq α] (m:List (α×Value)) (k:α):Option Value:=(mfind m k).map (·.2)
def mput [DecidableEq α]:List (α×Value)→α→Value→List (α×Value)
 |[],k,v=>[(k,v)]
 |(a,u)::r,k,v=>if(k==a)=true then(k,v)::r else(a,u)::mput r k v
theorem mget_nil [DecidableEq α] (k:α):mget [] k=none:=rfl
theorem mget_cons [DecidableEq α] (a:α) (u:Value) (r:List (α×Value)) (k:α):mget ((a,u)::r) k=if k=a then some u else mget r k:=by
 unfold mget;rw [show mfind ((a,u)::r) k=if(k==a)=true then some (0,u)else(mfind r k).map fun p=>(p.1+1,p.2)from rfl]
 by_cases h:k=a
 ·simp [h]
 ·rw [if_neg (by simpa using h),if_neg h]
  cases mfind r k<;>rfl
theorem mget_put [DecidableEq α] (m:List (α×Value)) (k:α) (v:Value) (j:α):mget (mput m k v) j=if j=k then some v else mget m j:=by
 induction m with
 |nil=>rw [mput,mget_cons]
 |cons p r ih =>
   obtain⟨a,u⟩:=p;unfold mput
   by_cases h:k=a
   ·subst h;simp only [beq_self_eq_true,if_true,mget_cons];split<;>rfl
   ·simp only [beq_iff_eq,h,if_false,mget_cons,ih]
    by_cases hj:j=a
    ·subst hj;simp [Ne.symm h]
    ·simp [hj]
def MRow (w:World) (b:Nat) (enc:α→Value) (m:List (α×Value)):Prop:=∃ es clock,w.heap[b]?=some (.map es clock)∧es.toList.map (fun e=>(e.key,e.val))=m.map fun p=>(enc p.1,p.2)
theorem MRow.lt {w:World} {b:Nat} {enc:α→Value} {m:List (α×Value)} (h:MRow w b enc m):b<w.heap.size:=by
 obtain⟨_,_,h,_⟩:=h;exact(Array.getElem?_eq_some_iff.1 h).1
theorem MRow.ext {w w':World} {b:Nat} {enc:α→Value} {m:List (α×Value)} (h:MRow w b enc m) (he:Ext w w'):MRow w' b enc m:=by
 have hl:=h.lt;obtain⟨es,c,h1,h2⟩:=h;exact⟨es,c,(he.block b hl).trans h1,h2⟩
theorem Mod.map {S:Nat→Prop} {w w':World} {b:Nat} {enc:α→Value} {m:List (α×Value)} (hm:Mod S w w') (h:MRow w b enc m) (hn:¬ S b):MRow w' b enc m:=by
 have hl:=h.lt;obtain⟨es,c,h1,h2⟩:=h;exact⟨es,c,(hm.block b hl hn).trans h1,h2⟩
theorem Upd.map {x:Nat} {w w':World} {b:Nat} {enc:α→Value} {m:List (α×Value)} (u:Upd x w w') (h:MRow w b enc m) (hn:b≠x):MRow w' b enc m:=by
 obtain⟨es,c,h1,h2⟩:=h;exact⟨es,c,(u.block b hn).trans h1,h2⟩
theorem findNow_eq [DecidableEq α] {D:TypeDesc} {enc:α→Value} (hD:∀ a b,Instr.sameNow D (enc a) (enc b)=some (a==b)) (k:α):∀ (es:List MapEntry) (m:List (α×Value)) (i:Nat),es.map (fun e=>(e.key,e.val))=m.map (fun p=>(enc p.1,p.2)) →
   Instr.findNow D (enc k) es i=some ((mfind m k).map fun p=>(i+p.1,p.2))
 |[],[],i,_=>rfl
 |[],p::m,i,h=>by simp at h
 |e::es,[],i,h=>by simp at h
 |e::es,(a,u)::m,i,h=>by
   simp only [List.map_cons,List.cons.injEq,Prod.mk.injEq]at h;have ih:=findNow_eq hD k es m (i+1) h.2;simp only [Instr.findNow,h.1.1,hD,mfind]
   cases hk:(k==a)with
   |true=>simp [h.1.2]
   |false =>
     simp only [ih,Bool.false_eq_true,if_false]
     cases mfind m k with
     |none=>rfl
     |some q=>simp;omega
theorem modify_eq [DecidableEq α] {enc:α→Value} (k:α) (v:Value):∀ (es:List MapEntry) (m:List (α×Value)) (j:Nat) (u:Value),es.map (fun e=>(e.key,e.val))=m.map (fun p=>(enc p.1,p.2))→mfind m k=some (j,u) →
   (es.modify j fun e=>{ e with key:=enc k,val:=v }).map (fun e=>(e.key,e.val))=(mput m k v).map fun p=>(enc p.1,p.2)
 |[],[],_,_,_,hf=>by cases hf
 |[],p::m,_,_,h,_=>by simp at h
 |e::es,[],_,_,h,_=>by simp at h
 |e::es,(a,q)::m,j,u,h,hf=>by
   simp only [List.map_cons,List.cons.injEq,Prod.mk.injEq]at h;simp only [mfind]at hf;unfold mput
   by_cases hk:(k==a)=true
   ·rw [if_pos hk]at hf ⊢;simp only [Option.some.injEq,Prod.mk.injEq]at hf;obtain⟨rfl,rfl⟩:=hf;simp [h.2]
   ·rw [if_neg hk]at hf ⊢
    cases hm:mfind m k with
    |none=>rw [hm]at hf;cases hf
    |some r =>
      rw [hm]at hf;simp only [Option.map_some,Option.some.injEq,Prod.mk.injEq]at hf;obtain⟨rfl,rfl⟩:=hf;have ih:=modify_eq k v es m r.1 r.2 h.2 hm;simp only [List.modify_succ_cons,List.map_cons,ih,h.1.1,h.1.2]
theorem mput_none [DecidableEq α] {m:List (α×Value)} {k:α} (v:Value) (h:mfind m k=none):mput m k v=m++[(k,v)]:=by
 induction m with
 |nil=>rfl
 |cons p r ih =>
   obtain⟨a,u⟩:=p;simp only [mfind]at h;unfold mput
   by_cases hk:(k==a)=true
   ·rw [if_pos hk]at h;cases h
   ·rw [if_neg hk]at h ⊢;rw [ih (by cases hm:mfind r k with|none=>rfl|some q=>rw [hm]at h;cases h)]
    rfl
end
structure KeyOK (P:Program) (kt:TypeId) {α:Type} [DecidableEq α] (enc:α→Value):Prop where
 chk:∀ (emp:Bool) (a:α) (w:World),(Instr.checkKey emp 10000 kt (enc a)).run P w=.ok () w
 find:∀ (k:α) (es:List MapEntry) (m:List (α×Value)),es.map (fun e=>(e.key,e.val))=m.map (fun p=>(enc p.1,p.2))→∀ w,(Instr.findKey kt (enc k) es).run P w=.ok (mfind m k) w
 bits:∀ a,Instr.sameBits 10000 (enc a) (enc a)=true
theorem KeyOK.now {P:Program} {kt:TypeId} {α:Type} [DecidableEq α] {enc:α→Value} (h1:∃ D,P.underlying kt=some D∧(∀ a b,Instr.sameNow D (enc a) (enc b)=some (a==b))∧∀ (emp:Bool) (n:Nat) (a:α) (w:World),(Instr.checkKey emp (n+1) kt (enc a)).run P w=.ok () w)
   (h2:∀ a,Instr.sameBits 10000 (enc a) (enc a)=true):KeyOK P kt enc:=by
 obtain⟨D,hu,hD,hc⟩:=h1;refine⟨fun emp a w=>hc emp 9999 a w,fun k es m h w=>?_,h2⟩
 have:=findNow_eq hD k es m 0 h;simp only [Instr.findKey,Sem.run_bind,run_underlying hu,Result.andThen_ok,this];cases mfind m k<;>simp
theorem KeyOK.asked {P:Program} {kt:TypeId} {α:Type} [DecidableEq α] {enc:α→Value} (h1:∃ D,P.underlying kt=some D∧∀ a b,Instr.sameNow D (enc a) (enc b)=none) (hc:∀ (emp:Bool) (a:α) (w:World),(Instr.checkKey emp 10000 kt (enc a)).run P w=.ok () w)
   (he:∀ a b w,(Op.equal kt (enc a) (enc b)).run P w=.ok (a==b) w) (h2:∀ a,Instr.sameBits 10000 (enc a) (enc a)=true):KeyOK P kt enc:=by
 obtain⟨D,hu,hD⟩:=h1;refine⟨hc,fun k es m h w=>?_,h2⟩
 have ask:∀ (es:List MapEntry) (m:List (α×Value)) (i:Nat),es.map (fun e=>(e.key,e.val))=m.map (fun p=>(enc p.1,p.2))→(Instr.findAsking kt (enc k) es i).run P w=.ok ((mfind m k).map fun p=>(i+p.1,p.2)) w:=by
   intro es
   induction es with
   |nil=>intro m i h;cases m with|nil=>rfl|cons p r=>simp at h
   |cons e es ih =>
     intro m i h
     cases m with
     |nil=>simp at h
     |cons p r =>
       obtain⟨a,u⟩:=p;simp only [List.map_cons,List.cons.injEq,Prod.mk.injEq]at h;simp only [Instr.findAsking,h.1.1,Sem.run_bind,he,Result.andThen_ok,mfind]
       cases hk:(k==a)with
       |true=>simp [h.1.2]
       |false =>
         simp only [Bool.false_eq_true,if_false];rw [ih r (i+1) h.2]
         cases mfind r k with
         |none=>rfl
         |some q=>simp;omega
 cases es with
 |nil =>
   cases m with
   |nil=>simp [Instr.findKey,run_underlying hu,Instr.findNow,mfind]
   |cons p r=>simp at h
 |cons e es =>
   have hn:Instr.findNow D (enc k) (e::es) 0=none:=by
     cases m with
     |nil=>simp at h
     |cons p r =>
       obtain⟨a,u⟩:=p;simp only [List.map_cons,List.cons.injEq,Prod.mk.injEq]at h;simp only [Instr.findNow,h.1.1,hD]
   simp only [Instr.findKey,Sem.run_bind,run_underlying hu,Result.andThen_ok,hn];have:=ask (e::es) m 0 h;rw [this]
   congr 1
   cases mfind m k<;>simp
theorem KeyOK.int {P:Program} {kt:TypeId} (h:P.underlying kt=some (.int .i64)):KeyOK P kt (fun n:Int=>Value.int .i64 n) :=
 .now ⟨_,h,fun a b=>by simp [Instr.sameNow],fun emp n a w=>by simp [Instr.checkKey,run_underlying h]⟩ fun a=>by simp [Instr.sameBits]
theorem bytes_beq (a b:ByteArray):@BEq.beq ByteArray ByteArray.instBEq a b=decide (a=b):=by
 obtain⟨a⟩:=a;obtain⟨b⟩:=b;have h:@BEq.beq ByteArray ByteArray.instBEq ⟨a⟩ ⟨b⟩=(a==b):=rfl;rw [h,Bool.eq_iff_iff,beq_iff_eq,decide_eq_true_eq,ByteArray.mk.injEq]
theorem KeyOK.str {P:Program} {kt:TypeId} (h:P.underlying kt=some .string):KeyOK P kt (fun s:ByteArray=>Value.string s) :=
 .now ⟨_,h,fun a b=>by simp only [Instr.sameNow,bytes_beq];rfl,fun emp n a w=>by simp [Instr.checkKey,run_underlying h]⟩ fun a=>by simp only [Instr.sameBits,bytes_beq,decide_true]
section
variable {P:Program} {env:List (Nat×Value)} {w:World} {d:Option Tmp} {ty:TypeId} {pos:String} {af:Array Edge} {g:Option (Nat×Bool)} {α:Type} {enc:α→Value} {m:List (α×Value)} {kt e t:TypeId} {x y:Operand} {b:Nat} {k:α}
theorem run_findKey [DecidableEq α] (hk:KeyOK P kt enc) {es:List MapEntry} (h:es.map (fun e=>(e.key,e.val))=m.map fun p=>(enc p.1,p.2)) (w:World):(Instr.findKey kt (enc k) es).run P w=.ok (mfind m k) w:=hk.find k es m h w
theorem run_lookup [DecidableEq α] {z:Value} {size bytes:Nat} (ht:P.underlying t=some (.map kt e)) (hk:KeyOK P kt enc) (hz:Inf P e z size bytes) (hm:MRow w b enc m) (ok:Bool) :
   (Instr.lookup t (.map (some b)) (enc k) ok).run P w=.ok (if ok then .tuple #[(mget m k).getD z,.bool (mget m k).isSome]else(mget m k).getD z) w:=by
 obtain⟨es,c,h1,h2⟩:=hm;obtain⟨inf,i1,i2,_,_⟩:=hz.ex;have hck:=hk.chk;have hg:(getObj b).run P w=.ok (.map es c) w:=by simp [getObj,Sem.run,h1]
 have hck2:=hck es.isEmpty k w;have hf:=run_findKey (k:=k) hk h2 w;simp only [Instr.lookup,Sem.run_bind,run_underlying ht,Result.andThen_ok,hg,Sem.run_pure,hck2,hf];unfold mget
 cases mfind m k with
 |none =>
   have hzv:(zeroValue e).run P w=.ok z w:=by simp [zeroValue,typeInfo,i1,i2]
   simp only [Sem.run_bind,hzv,Result.andThen_ok,Sem.run_pure];cases ok<;>rfl
 |some q=>cases ok<;>simp
theorem Exa.lookup [DecidableEq α] {wc:World} {z:Value} {size bytes:Nat} (ht:P.underlying t=some (.map kt e)) (hk:KeyOK P kt enc) (hz:Inf P e z size bytes) (hx:ev env x=some (.map (some b))) (hy:ev env y=some (enc k)) (hm:MRow wc b enc m) :
   Exa P env wc ⟨d,.lookup t x y false,ty,pos,af,g⟩ ((mget m k).getD z):=fun a N ha w hw=>by
 have hr:=run_lookup (k:=k) ht hk hz (hm.ext hw) false;simp only [execOp,ha.ev hx,ha.ev hy,Sem.run_bind,hr,Result.andThen_ok,Sem.run_pure];exact⟨rfl,Ext.refl _⟩
theorem Exa.lookupOk [DecidableEq α] {wc:World} {z:Value} {size bytes:Nat} (ht:P.underlying t=some (.map kt e)) (hk:KeyOK P kt enc) (hz:Inf P e z size bytes) (hx:ev env x=some (.map (some b))) (hy:ev env y=some (enc k)) (hm:MRow wc b enc m) :
   Exa P env wc ⟨d,.lookup t x y true,ty,pos,af,g⟩ (.tuple #[(mget m k).getD z,.bool (mget m k).isSome]):=fun a N ha w hw=>by
 have hr:=run_lookup (k:=k) ht hk hz (hm.ext hw) true;simp only [execOp,ha.ev hx,ha.ev hy,Sem.run_bind,hr,Result.andThen_ok,Sem.run_pure];exact⟨rfl,Ext.refl _⟩
theorem run_mapUpdate [DecidableEq α] {v:Value} (ht:P.underlying t=some (.map kt e)) (hk:KeyOK P kt enc) (hm:MRow w b enc m) :
   ∃ o,(Instr.mapUpdate t (.map (some b)) (enc k) v).run P w=.ok () (w.putObj b o)∧MRow (w.putObj b o) b enc (mput m k v):=by
 have hlt:=hm.lt;obtain⟨es,c,h1,h2⟩:=hm;have hck:=hk.chk;have hg:(getObj b).run P w=.ok (.map es c) w:=by simp [getObj,Sem.run,h1]
 have hck2:=hck false k w;have hf:=run_findKey (k:=k) hk h2 w;have hset:∀ es' c',(setObj b (.map es' c')).run P w=.ok () (w.putObj b (.map es' c')):=fun es' c'=>by simp [setObj,Sem.run,h1,World.putObj]
 cases hq:mfind m k with
 |none =>
   rw [hq]at hf;refine⟨.map (es.push { key:=enc k,val:=v,born:=c }) (c+1),?_,_,_,World.putObj_heap_same hlt,?_⟩
   ·simp only [Instr.mapUpdate,Sem.run_bind,run_underlying ht,Result.andThen_ok,hg,hck2,hf,hset]
   ·rw [mput_none v hq,Array.toList_push,List.map_append,List.map_append,h2];rfl
 |some p =>
   obtain⟨j,u⟩:=p;rw [hq]at hf
   have hstay:(Instr.keyThatStays (((es[j]?).map (·.key)).getD (enc k)) (enc k)).run P w=.ok (enc k) w:=by
     have hold:((es[j]?).map (·.key)).getD (enc k)=enc k:=by
       have:∀ (l:List MapEntry) (m:List (α×Value)) (j:Nat) (u:Value),l.map (fun e=>(e.key,e.val))=m.map (fun p=>(enc p.1,p.2))→mfind m k=some (j,u)→(l[j]?).map (·.key)=some (enc k):=by
         intro l
         induction l with
         |nil=>intro m j u h hf;cases m with|nil=>cases hf|cons p r=>simp at h
         |cons e0 l ih =>
           intro m j u h hf
           cases m with
           |nil=>cases hf
           |cons p r =>
             obtain⟨a,q⟩:=p;simp only [List.map_cons,List.cons.injEq,Prod.mk.injEq]at h;simp only [mfind]at hf
             by_cases hka:(k==a)=true
             ·rw [if_pos hka]at hf;simp only [Option.some.injEq,Prod.mk.injEq]at hf;obtain⟨rfl,rfl⟩:=hf;have:k=a:=by simpa using hka
              simp [h.1.1,this]
             ·rw [if_neg hka]at hf
              cases hm2:mfind r k with
              |none=>rw [hm2]at hf;cases hf
              |some q2 =>
                rw [hm2]at hf;simp only [Option.map_some,Option.some.injEq,Prod.mk.injEq]at hf;obtain⟨rfl,rfl⟩:=hf;simpa using ih r q2.1 q2.2 h.2 hm2
       have h3:=this es.toList m j u h2 hq;rw [Array.getElem?_toList]at h3;rw [h3];rfl
     rw [hold];simp [Instr.keyThatStays,hk.bits k]
   refine⟨.map (es.modify j fun e=>{ e with key:=enc k,val:=v }) c,?_,_,_,World.putObj_heap_same hlt,?_⟩
   ·simp only [Instr.mapUpdate,Sem.run_bind,run_underlying ht,Result.andThen_ok,hg,hck2,hf,hstay,hset]
   ·rw [Array.toList_modify];exact modify_eq k v es.toList m j u h2 hq
theorem putObj_upd (w:World) (b:Nat) (o:Obj):Upd b w (w.putObj b o):=⟨rfl,rfl,rfl,by simp,fun k hk=>World.putObj_heap_other hk⟩
theorem Stp.mapUpdate [DecidableEq α] {z:Operand} {v:Value} {K:Value→World→Prop} (ht:P.underlying t=some (.map kt e)) (hk:KeyOK P kt enc) (hx:ev env x=some (.map (some b))) (hy:ev env y=some (enc k)) (hz:ev env z=some v) (hm:MRow w b enc m)
   (h:∀ w',Upd b w w'→MRow w' b enc (mput m k v)→K undef w'):Stp P env w ⟨d,.mapUpdate t x y z,ty,pos,af,g⟩ K:=fun a N ha=>by
 obtain⟨o,hr,hm'⟩:=run_mapUpdate (k:=k) (v:=v) ht hk hm;simp only [execOp,ha.ev hx,ha.ev hy,ha.ev hz,Sem.run_bind,hr,Result.andThen_ok,Sem.run_pure];exact h _ (putObj_upd w b o) hm'
theorem Stp.insert [DecidableEq α] {z:Operand} {v:Value} {K:Value→World→Prop} (ht:P.underlying t=some (.map kt e)) (hk:KeyOK P kt enc) (hx:ev env x=some (.map (some b))) (hy:ev env y=some (enc k)) (hz:ev env z=some v) (hm:MRow w b enc m)
   (h:∀ w',Upd b w w'→MRow w' b enc (mput m k v)→K undef w'):Stp P env w ⟨d,.insert t x y z,ty,pos,af,g⟩ K:=fun a N ha=>by
 obtain⟨o,hr,hm'⟩:=run_mapUpdate (k:=k) (v:=v) ht hk hm;simp only [execOp,ha.ev hx,ha.ev hy,ha.ev hz,Sem.run_bind,hr,Result.andThen_ok,Sem.run_pure];exact h _ (putObj_upd w b o) hm'
theorem Stp.makeMap {K:Value→World→Prop} (enc:α→Value) (h:∀ w',Ext w w'→w'.heap.size=w.heap.size+1→MRow w' w.heap.size enc []→K (.map (some w.heap.size)) w'):Stp P env w ⟨d,.makeMap t none,ty,pos,af,g⟩ K:=fun a N ha=>by
 have hk:=h (w.alloc (.map #[] 0)) (Ext.alloc w _) (by simp) ⟨#[],0,heap_alloc_new w _,rfl⟩
 have hr:(Instr.makeMap t none).run P w=.ok (.map (some w.heap.size)) (w.alloc (.map #[] 0)):=rfl;simp only [execOp,Option.map_none,Sem.run_bind,hr,Result.andThen_ok,Sem.run_pure];exact hk
end
end Go.XK
namespace Go.SX
open Go.XK Go.RowKit
def TD0 (x:Int):List CP:=[CP.int x]
def TD1 (x:ByteArray):List CP:=[CP.str x]
def TD2 (x:Bool):List CP:=[CP.bool x]
def TD3 (x:UInt8):List CP:=[CP.w8 x]
def TD4 (x:UInt32):List CP:=[CP.w32 x]
def TD5 (x:UInt64):List CP:=[CP.w64 x]
structure TPlaced where
 Obj:ByteArray
 Sec:ByteArray
 Kind:Int
 At:Int
 Size:Int
 Digest:ByteArray
 Form:ByteArray
 deriving DecidableEq
def TD6 (x:TPlaced):List CP:=[CP.str x.Obj,CP.str x.Sec,CP.int x.Kind,CP.int x.At,CP.int x.Size,CP.str x.Digest,CP.str x.Form]
def TD7 (x:(List TPlaced)):List CP:=[CP.lst 7 88 TD6 x]
structure TExport where
 Name:ByteArray
 Version:ByteArray
 Main:Bool
 Kind:Int
 At:Int
 Size:Int
 deriving DecidableEq
def TD8 (x:TExport):List CP:=[CP.str x.Name,CP.str x.Version,CP.bool x.Main,CP.int x.Kind,CP.int x.At,CP.int x.Size]
def TD9 (x:(List TExport)):List CP:=[CP.lst 6 64 TD8 x]
structure TImport where
 Name:ByteArray
 Version:ByteArray
 Kind:Int
 Weak:Bool
 Own:Bool
 deriving DecidableEq
def TD10 (x:TImport):List CP:=[CP.str x.Name,CP.str x.Version,CP.int x.Kind,CP.bool x.Weak,CP.bool x.Own]
def TD11 (x:(List TImport)):List CP:=[CP.lst 5 48 TD10 x]
def TD12 (x:(List Int)):List CP:=[CP.lst 1 8 TD0 x]
structure TDyn where
 At:Int
 Kind:Int
 Import:Int
 Add:Int
 deriving DecidableEq
def TD13 (x:TDyn):List CP:=[CP.int x.At,CP.int x.Kind,CP.int x.Import,CP.int x.Add]
def TD14 (x:(List TDyn)):List CP:=[CP.lst 4 32 TD13 x]
def TD15 (x:(List ByteArray)):List CP:=[CP.lst 1 16 TD1 x]
structure TVersionDef where
 Name:ByteArray
 Parents:(List ByteArray)
 deriving DecidableEq
def TD16 (x:TVersionDef):List CP:=[CP.str x.Name,CP.lst 1 16 TD1 x.Parents]
def TD17 (x:(List TVersionDef)):List CP:=[CP.lst 2 40 TD16 x]
structure TMark where
 Name:ByteArray
 Kind:Int
 At:Int
 Size:Int
 deriving DecidableEq
def TD18 (x:TMark):List CP:=[CP.str x.Name,CP.int x.Kind,CP.int x.At,CP.int x.Size]
def TD19 (x:(List TMark)):List CP:=[CP.lst 4 40 TD18 x]
structure TLine where
 Sec:Int
 At:Int
 File:ByteArray
 Line:Int
 deriving DecidableEq
def TD20 (x:TLine):List CP:=[CP.int x.Sec,CP.int x.At,CP.str x.File,CP.int x.Line]
def TD21 (x:(List TLine)):List CP:=[CP.lst 4 40 TD20 x]
structure TSpan where
 At:Int
 Size:Int
 deriving DecidableEq
def TD22 (x:TSpan):List CP:=[CP.int x.At,CP.int x.Size]
def TD23 (x:(List TSpan)):List CP:=[CP.lst 2 16 TD22 x]
structure TInline where
 Sec:Int
 From:Int
 To:Int
 Name:ByteArray
 File:ByteArray
 Line:Int
 deriving DecidableEq
def TD24 (x:TInline):List CP:=[CP.int x.Sec,CP.int x.From,CP.int x.To,CP.str x.Name,CP.str x.File,CP.int x.Line]
def TD25 (x:(List TInline)):List CP:=[CP.lst 6 64 TD24 x]
structure TVar where
 Sec:Int
 From:Int
 To:Int
 Name:ByteArray
 Where:Int
 N:Int
 deriving DecidableEq
def TD26 (x:TVar):List CP:=[CP.int x.Sec,CP.int x.From,CP.int x.To,CP.str x.Name,CP.int x.Where,CP.int x.N]
def TD27 (x:(List TVar)):List CP:=[CP.lst 6 56 TD26 x]
structure TDepth where
 Sec:Int
 From:Int
 To:Int
 Bytes:Int
 deriving DecidableEq
def TD28 (x:TDepth):List CP:=[CP.int x.Sec,CP.int x.From,CP.int x.To,CP.int x.Bytes]
def TD29 (x:(List TDepth)):List CP:=[CP.lst 4 32 TD28 x]
structure TInfo where
 Marks:(List TMark)
 Lines:(List TLine)
 Ends:(List TSpan)
 Inlines:(List TInline)
 Vars:(List TVar)
 Depths:(List TDepth)
 deriving DecidableEq
def TD30 (x:TInfo):List CP:=[CP.lst 4 40 TD18 x.Marks,CP.lst 4 40 TD20 x.Lines,CP.lst 2 16 TD22 x.Ends,CP.lst 6 64 TD24 x.Inlines,CP.lst 6 56 TD26 x.Vars,CP.lst 4 32 TD28 x.Depths]
structure TPiece where
 From:Int
 Size:Int
 To:Int
 deriving DecidableEq
def TD31 (x:TPiece):List CP:=[CP.int x.From,CP.int x.Size,CP.int x.To]
def TD32 (x:(List TPiece)):List CP:=[CP.lst 3 24 TD31 x]
structure TConv where
 Obj:ByteArray
 Sec:ByteArray
 From:ByteArray
 Pieces:(List TPiece)
 Code:Int
 deriving DecidableEq
def TD33 (x:TConv):List CP:=[CP.str x.Obj,CP.str x.Sec,CP.str x.From,CP.lst 3 24 TD31 x.Pieces,CP.int x.Code]
def TD34 (x:(List TConv)):List CP:=[CP.lst 5 80 TD33 x]
structure TImage where
 Name:ByteArray
 Lib:Bool
 Code:Int
 Data:Int
 Zero:Int
 Bytes:ByteArray
 Tls:ByteArray
 Block:Int
 Nodes:(List TPlaced)
 Exports:(List TExport)
 Imports:(List TImport)
 Slots:(List Int)
 Stubs:(List Int)
 Dyns:(List TDyn)
 Inits:(List Int)
 Lasts:(List Int)
 Entry:Int
 Needs:(List ByteArray)
 Versions:(List TVersionDef)
 Info:TInfo
 Changes:(List TConv)
 deriving DecidableEq
def TD35 (x:TImage):List CP:=[CP.str x.Name,CP.bool x.Lib,CP.int x.Code,CP.int x.Data,CP.int x.Zero,CP.str x.Bytes,CP.str x.Tls,CP.int x.Block,CP.lst 7 88 TD6 x.Nodes,CP.lst 6 64 TD8 x.Exports,CP.lst 5 48 TD10 x.Imports,CP.lst 1 8 TD0 x.Slots,CP.lst 1 8 TD0 x.Stubs,CP.lst 4 32 TD13 x.Dyns,CP.lst 1 8 TD0 x.Inits,CP.lst 1 8 TD0 x.Lasts,CP.int x.Entry,CP.lst 1 16 TD1 x.Needs,CP.lst 2 40 TD16 x.Versions,CP.lst 4 40 TD18 x.Info.Marks,CP.lst 4 40 TD20 x.Info.Lines,CP.lst 2 16 TD22 x.Info.Ends,CP.lst 6 64 TD24 x.Info.Inlines,CP.lst 6 56 TD26 x.Info.Vars,CP.lst 4 32 TD28 x.Info.Depths,CP.lst 5 80 TD33 x.Changes]
structure TSpot where
 Func:ByteArray
 Off:Int
 File:ByteArray
 Line:Int
 Inlines:(List TInline)
 deriving DecidableEq
def TD36 (x:TSpot):List CP:=[CP.str x.Func,CP.int x.Off,CP.str x.File,CP.int x.Line,CP.lst 6 64 TD24 x.Inlines]
def TD37 (x:(ByteArray×ByteArray)):List CP:=[CP.str x.1,CP.str x.2]
def TD38 (x:(Int×Int)):List CP:=[CP.int x.1,CP.int x.2]
structure TArc where
 From:Int
 To:Int
 deriving DecidableEq
def TD39 (x:TArc):List CP:=[CP.int x.From,CP.int x.To]
def TD40 (x:(List TArc)):List CP:=[CP.lst 2 16 TD39 x]
def TD41 (x:(List UInt8)):List CP:=[CP.lst 1 1 TD3 x]
def TD42 (x:(List (List Int))):List CP:=[CP.lst 1 24 TD12 x]
structure TGraphFinder where
 next:(List (List Int))
 index:(List Int)
 low:(List Int)
 stack:(List Int)
 part:(List Int)
 parts:(List (List Int))
 deriving DecidableEq
def TD43 (x:TGraphFinder):List CP:=[CP.lst 1 24 TD12 x.next,CP.lst 1 8 TD0 x.index,CP.lst 1 8 TD0 x.low,CP.lst 1 8 TD0 x.stack,CP.lst 1 8 TD0 x.part,CP.lst 1 24 TD12 x.parts]
structure TGraphCall where
 v:Int
 i:Int
 deriving DecidableEq
def TD44 (x:TGraphCall):List CP:=[CP.int x.v,CP.int x.i]
def TD45 (x:(List TGraphCall)):List CP:=[CP.lst 2 16 TD44 x]
structure RI where
 α:Type
 K:Nat
 B:Nat
 D:α→List CP
 Z:α
 V:α→Value
 eq:DecidableEq α
 len:∀ x,(D x).length=K
 pos:1≤B
inductive RT
 |lf
 |nd (l:RT) (k:Nat) (v:RI) (r:RT)
@[reducible] def RI0:RI:=⟨Unit,0,1,fun _=>[],(),fun _=>.tuple #[],inferInstance,fun _=>rfl,by decide⟩
@[reducible] def RT.get:RT→Nat→RI
 |.lf,_=>RI0
 |.nd l k v r,c=>match Nat.beq c k with
   |true=>v
   |false=>match Nat.blt c k with
     |true=>l.get c
     |false=>r.get c
@[reducible] def TI0:RI:=⟨Int,1,8,TD0,(0:Int),fun x=>.int .i64 x,(inferInstance:DecidableEq Int),fun _=>rfl,by decide⟩
@[reducible] def TI1:RI:=⟨ByteArray,1,16,TD1,(ByteArray.empty:ByteArray),fun x=>.string x,(inferInstance:DecidableEq ByteArray),fun _=>rfl,by decide⟩
@[reducible] def TI2:RI:=⟨Bool,1,1,TD2,(false:Bool),fun x=>.bool x,(inferInstance:DecidableEq Bool),fun _=>rfl,by decide⟩
@[reducible] def TI3:RI:=⟨UInt8,1,1,TD3,(0:UInt8),fun x=>.int .u8 x.toNat,(inferInstance:DecidableEq UInt8),fun _=>rfl,by decide⟩
@[reducible] def TI4:RI:=⟨UInt32,1,4,TD4,(0:UInt32),fun x=>.int .u32 x.toNat,(inferInstance:DecidableEq UInt32),fun _=>rfl,by decide⟩
@[reducible] def TI5:RI:=⟨UInt64,1,8,TD5,(0:UInt64),fun x=>.int .u64 x.toNat,(inferInstance:DecidableEq UInt64),fun _=>rfl,by decide⟩
@[reducible] def TI6:RI:=⟨TPlaced,7,88,TD6,(⟨ByteArray.empty,ByteArray.empty,0,0,0,ByteArray.empty,ByteArray.empty⟩:TPlaced),fun x=>.agg #[.string x.Obj,.string x.Sec,.int .i64 x.Kind,.int .i64 x.At,.int .i64 x.Size,.string x.Digest,.string x.Form],(inferInstance:DecidableEq TPlaced),fun _=>rfl,by decide⟩
@[reducible] def TI7:RI:=⟨(List TPlaced),1,24,TD7,([]:(List TPlaced)),fun _=>.tuple #[],(inferInstance:DecidableEq (List TPlaced)),fun _=>rfl,by decide⟩
@[reducible] def TI8:RI:=⟨TExport,6,64,TD8,(⟨ByteArray.empty,ByteArray.empty,false,0,0,0⟩:TExport),fun x=>.agg #[.string x.Name,.string x.Version,.bool x.Main,.int .i64 x.Kind,.int .i64 x.At,.int .i64 x.Size],(inferInstance:DecidableEq TExport),fun _=>rfl,by decide⟩
@[reducible] def TI9:RI:=⟨(List TExport),1,24,TD9,([]:(List TExport)),fun _=>.tuple #[],(inferInstance:DecidableEq (List TExport)),fun _=>rfl,by decide⟩
@[reducible] def TI10:RI:=⟨TImport,5,48,TD10,(⟨ByteArray.empty,ByteArray.empty,0,false,false⟩:TImport),fun x=>.agg #[.string x.Name,.string x.Version,.int .i64 x.Kind,.bool x.Weak,.bool x.Own],(inferInstance:DecidableEq TImport),fun _=>rfl,by decide⟩
@[reducible] def TI11:RI:=⟨(List TImport),1,24,TD11,([]:(List TImport)),fun _=>.tuple #[],(inferInstance:DecidableEq (List TImport)),fun _=>rfl,by decide⟩
@[reducible] def TI12:RI:=⟨(List Int),1,24,TD12,([]:(List Int)),fun _=>.tuple #[],(inferInstance:DecidableEq (List Int)),fun _=>rfl,by decide⟩
@[reducible] def TI13:RI:=⟨TDyn,4,32,TD13,(⟨0,0,0,0⟩:TDyn),fun x=>.agg #[.int .i64 x.At,.int .i64 x.Kind,.int .i64 x.Import,.int .i64 x.Add],(inferInstance:DecidableEq TDyn),fun _=>rfl,by decide⟩
@[reducible] def TI14:RI:=⟨(List TDyn),1,24,TD14,([]:(List TDyn)),fun _=>.tuple #[],(inferInstance:DecidableEq (List TDyn)),fun _=>rfl,by decide⟩
@[reducible] def TI15:RI:=⟨(List ByteArray),1,24,TD15,([]:(List ByteArray)),fun _=>.tuple #[],(inferInstance:DecidableEq (List ByteArray)),fun _=>rfl,by decide⟩
@[reducible] def TI16:RI:=⟨TVersionDef,2,40,TD16,(⟨ByteArray.empty,[]⟩:TVersionDef),fun _=>.tuple #[],(inferInstance:DecidableEq TVersionDef),fun _=>rfl,by decide⟩
@[reducible] def TI17:RI:=⟨(List TVersionDef),1,24,TD17,([]:(List TVersionDef)),fun _=>.tuple #[],(inferInstance:DecidableEq (List TVersionDef)),fun _=>rfl,by decide⟩
@[reducible] def TI18:RI:=⟨TMark,4,40,TD18,(⟨ByteArray.empty,0,0,0⟩:TMark),fun x=>.agg #[.string x.Name,.int .i64 x.Kind,.int .i64 x.At,.int .i64 x.Size],(inferInstance:DecidableEq TMark),fun _=>rfl,by decide⟩
@[reducible] def TI19:RI:=⟨(List TMark),1,24,TD19,([]:(List TMark)),fun _=>.tuple #[],(inferInstance:DecidableEq (List TMark)),fun _=>rfl,by decide⟩
@[reducible] def TI20:RI:=⟨TLine,4,40,TD20,(⟨0,0,ByteArray.empty,0⟩:TLine),fun x=>.agg #[.int .i64 x.Sec,.int .i64 x.At,.string x.File,.int .i64 x.Line],(inferInstance:DecidableEq TLine),fun _=>rfl,by decide⟩
@[reducible] def TI21:RI:=⟨(List TLine),1,24,TD21,([]:(List TLine)),fun _=>.tuple #[],(inferInstance:DecidableEq (List TLine)),fun _=>rfl,by decide⟩
@[reducible] def TI22:RI:=⟨TSpan,2,16,TD22,(⟨0,0⟩:TSpan),fun x=>.agg #[.int .i64 x.At,.int .i64 x.Size],(inferInstance:DecidableEq TSpan),fun _=>rfl,by decide⟩
@[reducible] def TI23:RI:=⟨(List TSpan),1,24,TD23,([]:(List TSpan)),fun _=>.tuple #[],(inferInstance:DecidableEq (List TSpan)),fun _=>rfl,by decide⟩
@[reducible] def TI24:RI:=⟨TInline,6,64,TD24,(⟨0,0,0,ByteArray.empty,ByteArray.empty,0⟩:TInline),fun x=>.agg #[.int .i64 x.Sec,.int .i64 x.From,.int .i64 x.To,.string x.Name,.string x.File,.int .i64 x.Line],(inferInstance:DecidableEq TInline),fun _=>rfl,by decide⟩
@[reducible] def TI25:RI:=⟨(List TInline),1,24,TD25,([]:(List TInline)),fun _=>.tuple #[],(inferInstance:DecidableEq (List TInline)),fun _=>rfl,by decide⟩
@[reducible] def TI26:RI:=⟨TVar,6,56,TD26,(⟨0,0,0,ByteArray.empty,0,0⟩:TVar),fun x=>.agg #[.int .i64 x.Sec,.int .i64 x.From,.int .i64 x.To,.string x.Name,.int .i64 x.Where,.int .i64 x.N],(inferInstance:DecidableEq TVar),fun _=>rfl,by decide⟩
@[reducible] def TI27:RI:=⟨(List TVar),1,24,TD27,([]:(List TVar)),fun _=>.tuple #[],(inferInstance:DecidableEq (List TVar)),fun _=>rfl,by decide⟩
@[reducible] def TI28:RI:=⟨TDepth,4,32,TD28,(⟨0,0,0,0⟩:TDepth),fun x=>.agg #[.int .i64 x.Sec,.int .i64 x.From,.int .i64 x.To,.int .i64 x.Bytes],(inferInstance:DecidableEq TDepth),fun _=>rfl,by decide⟩
@[reducible] def TI29:RI:=⟨(List TDepth),1,24,TD29,([]:(List TDepth)),fun _=>.tuple #[],(inferInstance:DecidableEq (List TDepth)),fun _=>rfl,by decide⟩
@[reducible] def TI30:RI:=⟨TInfo,6,144,TD30,(⟨[],[],[],[],[],[]⟩:TInfo),fun _=>.tuple #[],(inferInstance:DecidableEq TInfo),fun _=>rfl,by decide⟩
@[reducible] def TI31:RI:=⟨TPiece,3,24,TD31,(⟨0,0,0⟩:TPiece),fun x=>.agg #[.int .i64 x.From,.int .i64 x.Size,.int .i64 x.To],(inferInstance:DecidableEq TPiece),fun _=>rfl,by decide⟩
@[reducible] def TI32:RI:=⟨(List TPiece),1,24,TD32,([]:(List TPiece)),fun _=>.tuple #[],(inferInstance:DecidableEq (List TPiece)),fun _=>rfl,by decide⟩
@[reducible] def TI33:RI:=⟨TConv,5,80,TD33,(⟨ByteArray.empty,ByteArray.empty,ByteArray.empty,[],0⟩:TConv),fun _=>.tuple #[],(inferInstance:DecidableEq TConv),fun _=>rfl,by decide⟩
@[reducible] def TI34:RI:=⟨(List TConv),1,24,TD34,([]:(List TConv)),fun _=>.tuple #[],(inferInstance:DecidableEq (List TConv)),fun _=>rfl,by decide⟩
@[reducible] def TI35:RI:=⟨TImage,26,504,TD35,(⟨ByteArray.empty,false,0,0,0,ByteArray.empty,ByteArray.empty,0,[],[],[],[],[],[],[],[],0,[],[],⟨[],[],[],[],[],[]⟩,[]⟩:TImage),fun _=>.tuple #[],(inferInstance:DecidableEq TImage),fun _=>rfl,by decide⟩
@[reducible] def TI36:RI:=⟨TSpot,5,72,TD36,(⟨ByteArray.empty,0,ByteArray.empty,0,[]⟩:TSpot),fun _=>.tuple #[],(inferInstance:DecidableEq TSpot),fun _=>rfl,by decide⟩
@[reducible] def TI37:RI:=⟨(ByteArray×ByteArray),2,32,TD37,((ByteArray.empty,ByteArray.empty):(ByteArray×ByteArray)),fun x=>.agg #[.string x.1,.string x.2],(inferInstance:DecidableEq (ByteArray×ByteArray)),fun _=>rfl,by decide⟩
@[reducible] def TI38:RI:=⟨(Int×Int),2,16,TD38,((0,0):(Int×Int)),fun x=>.agg #[.int .i64 x.1,.int .i64 x.2],(inferInstance:DecidableEq (Int×Int)),fun _=>rfl,by decide⟩
@[reducible] def TI39:RI:=⟨TArc,2,16,TD39,(⟨0,0⟩:TArc),fun x=>.agg #[.int .i64 x.From,.int .i64 x.To],(inferInstance:DecidableEq TArc),fun _=>rfl,by decide⟩
@[reducible] def TI40:RI:=⟨(List TArc),1,24,TD40,([]:(List TArc)),fun _=>.tuple #[],(inferInstance:DecidableEq (List TArc)),fun _=>rfl,by decide⟩
@[reducible] def TI41:RI:=⟨(List UInt8),1,24,TD41,([]:(List UInt8)),fun _=>.tuple #[],(inferInstance:DecidableEq (List UInt8)),fun _=>rfl,by decide⟩
@[reducible] def TI42:RI:=⟨(List (List Int)),1,24,TD42,([]:(List (List Int))),fun _=>.tuple #[],(inferInstance:DecidableEq (List (List Int))),fun _=>rfl,by decide⟩
@[reducible] def TI43:RI:=⟨TGraphFinder,6,144,TD43,(⟨[],[],[],[],[],[]⟩:TGraphFinder),fun _=>.tuple #[],(inferInstance:DecidableEq TGraphFinder),fun _=>rfl,by decide⟩
@[reducible] def TI44:RI:=⟨TGraphCall,2,16,TD44,(⟨0,0⟩:TGraphCall),fun x=>.agg #[.int .i64 x.v,.int .i64 x.i],(inferInstance:DecidableEq TGraphCall),fun _=>rfl,by decide⟩
@[reducible] def TI45:RI:=⟨(List TGraphCall),1,24,TD45,([]:(List TGraphCall)),fun _=>.tuple #[],(inferInstance:DecidableEq (List TGraphCall)),fun _=>rfl,by decide⟩
@[reducible] def Tab:RT:=(.nd (.nd (.nd (.nd (.nd (.nd .lf 0 TI0 .lf) 1 TI1 .lf) 2 TI2 (.nd (.nd .lf 3 TI3 .lf) 4 TI4 .lf)) 5 TI5 (.nd (.nd (.nd .lf 6 TI6 .lf) 7 TI7 .lf) 8 TI8 (.nd (.nd .lf 9 TI9 .lf) 10 TI10 .lf))) 11 TI11 (.nd (.nd (.nd (.nd .lf 12 TI12 .lf) 13 TI13 .lf) 14 TI14 (.nd (.nd .lf 15 TI15 .lf) 16 TI16 .lf)) 17 TI17 (.nd (.nd (.nd .lf 18 TI18 .lf) 19 TI19 .lf) 20 TI20 (.nd (.nd .lf 21 TI21 .lf) 22 TI22 .lf)))) 23 TI23 (.nd (.nd (.nd (.nd (.nd .lf 24 TI24 .lf) 25 TI25 .lf) 26 TI26 (.nd (.nd .lf 27 TI27 .lf) 28 TI28 .lf)) 29 TI29 (.nd (.nd (.nd .lf 30 TI30 .lf) 31 TI31 .lf) 32 TI32 (.nd (.nd .lf 33 TI33 .lf) 34 TI34 .lf))) 35 TI35 (.nd (.nd (.nd (.nd .lf 36 TI36 .lf) 37 TI37 .lf) 38 TI38 (.nd (.nd .lf 39 TI39 .lf) 40 TI40 .lf)) 41 TI41 (.nd (.nd (.nd .lf 42 TI42 .lf) 43 TI43 .lf) 44 TI44 (.nd .lf 45 TI45 .lf)))))
@[reducible] def TabT (c:Nat):Type:=(Tab.get c).α
def KT (c:Nat):Nat:=(Tab.get c).K
def BT (c:Nat):Nat:=(Tab.get c).B
def TabD (c:Nat):TabT c→List CP:=(Tab.get c).D
def TabZ (c:Nat):TabT c:=(Tab.get c).Z
def TV (c:Nat):TabT c→Value:=(Tab.get c).V
instance (c:Nat):DecidableEq (TabT c):=(Tab.get c).eq
theorem BT_pos (c:Nat):1≤BT c:=(Tab.get c).pos
theorem TD_len (c:Nat) (x:TabT c):(TabD c x).length=KT c:=(Tab.get c).len x
end Go.SX
namespace Go.SX
open Go.XK Go.RowKit
inductive SV:Type
 |v (x:Value)
 |i (n:Int)
 |b (p:Bool)
 |w8 (x:UInt8)
 |w32 (x:UInt32)
 |w64 (x:UInt64)
 |str (s:ByteArray)
 |loc (i o:Nat)
 |osl (i:Nat)
 |nso (i:Nat)
 |noe (i:Nat) (k:Int)
 |sub (i c:Nat) (lo hi:Int)
 |oel (i c:Nat) (k:Int) (o:Nat)
 |vel (i c N:Nat) (k:Int) (o:Nat)
 |vsl (i c N:Nat) (lo hi:Int)
 |av (c N:Nat) (l:List (TabT c))
 |lst (z:Option Bool) (c:Nat) (l:List (TabT c))
 |fp (cs:List SV) (o:Nat)
 |fvec (c N:Nat) (l:List (TabT c))
 |fsl (cs:List SV)
 |agg (l:List SV)
 |tup (l:List SV)
 |clo (f:FuncId) (first caps:List SV)
 |ifc (t:TypeId) (x:SV)
 |un
abbrev SV.nl:SV:=.v (.slice none 0 0)
def subV (K:Nat) (lo hi:Nat):Value→Value
 |.slice a _ c=>.slice (if c=lo then a else a.map (·.add (lo*K))) (hi-lo) (c-lo)
 |v=>v
mutual
def Den (m:Mm) (ids:List Value):SV→Value→Prop
 |.v x,y=>y=x
 |.i n,y=>y=.int .i64 n∧InR n
 |.b p,y=>y=.bool p
 |.w8 x,y=>y=.int .u8 x.toNat
 |.w32 x,y=>y=.int .u32 x.toNat
 |.w64 x,y=>y=.int .u64 x.toNat
 |.str s,y=>y=.string s∧(s.size:Int)≤STRMAX
 |.loc i o,y=>∃ b,ids[i]?=some (.pointer (some ⟨b,0,none⟩))∧y=.pointer (some ⟨b,o,none⟩)
 |.osl i,y=>ids[i]?=some y∧y.oneCell'=true
 |.nso i,y=>∃ vs,ids[i]?=some (.tuple (y::vs).toArray)∧y.oneCell'=true
 |.noe i k,y=>∃ b q n cp vs,ids[i]?=some (.tuple (.slice (some ⟨b,q,none⟩) n cp::vs).toArray)∧0≤k∧k<n∧y=.pointer (some ⟨b,q+k.toNat,none⟩)
 |.sub i c lo hi,y=>∃ a n cp,ids[i]?=some (.slice a n cp)∧0≤lo∧lo≤hi∧hi≤n∧(0<n→∃ b q,a=some ⟨b,q,none⟩)∧n≤cp∧n≤140737488355328∧y=subV (KT c) lo.toNat hi.toNat (.slice a n cp)
 |.oel i c k o,y=>∃ b q n cp,ids[i]?=some (.slice (some ⟨b,q,none⟩) n cp)∧0≤k∧k<n∧y=.pointer (some ⟨b,q+k.toNat * KT c+o,none⟩)
 |.vel i c N k o,y=>∃ b,ids[i]?=some (.pointer (some ⟨b,0,none⟩))∧0≤k∧k<N∧y=.pointer (some ⟨b,k.toNat * KT c+o,none⟩)
 |.vsl i c N lo hi,y=>∃ b,ids[i]?=some (.pointer (some ⟨b,0,none⟩))∧0≤lo∧lo≤hi∧hi≤N∧N≤140737488355328∧y=subV (KT c) lo.toNat hi.toNat (.slice (some ⟨b,0,none⟩) N N)
 |.av c N l,y=>∃ uss:List (List Value),y=.agg uss.flatten.toArray∧Elts (KT c) (TabD c) m l uss∧l.length=N
 |.lst z c l,y=>LD (KT c) (BT c) (TabD c) z l m y
 |.fp cs o,y=>∃ b q us,y=.pointer (some ⟨b,q+o,none⟩)∧m.S b∧At m.w b q us∧DenL m ids cs us
 |.fvec c N l,y=>∃ b q uss,y=.pointer (some ⟨b,q,none⟩)∧m.S b∧At m.w b q uss.flatten∧Elts (KT c) (TabD c) m l uss∧l.length=N
 |.fsl cs,y=>∃ b q us,y=.slice (some ⟨b,q,none⟩) us.length us.length∧us.length≤1000∧m.S b∧At m.w b q us∧DenL m ids cs us
 |.agg l,y=>∃ us:List Value,y=.agg us.toArray∧DenL m ids l us
 |.tup l,y=>∃ us:List Value,y=.tuple us.toArray∧DenL m ids l us
 |.clo f first caps,y=>∃ us vs:List Value,y=.func (.func f) us.toArray vs.toArray∧DenL m ids first us∧DenL m ids caps vs
 |.ifc t x,y=>∃ u,y=.iface t u∧Den m ids x u
 |.un,_=>True
def DenL (m:Mm) (ids:List Value):List SV→List Value→Prop
 |[],us=>us=[]
 |s::r,us=>∃ u us',us=u::us'∧Den m ids s u∧DenL m ids r us'
end
section
variable {m m':Mm} {ids ids':List Value}
mutual
theorem Den.le (hm:m.le m'):∀ (s:SV) {ids:List Value} {y:Value},Den m ids s y→Den m' ids s y
 |.v _,_,_,h=>by rw [Den]at h ⊢;exact h
 |.i _,_,_,h=>by rw [Den]at h ⊢;exact h
 |.b _,_,_,h=>by rw [Den]at h ⊢;exact h
 |.w8 _,_,_,h=>by rw [Den]at h ⊢;exact h
 |.w32 _,_,_,h=>by rw [Den]at h ⊢;exact h
 |.w64 _,_,_,h=>by rw [Den]at h ⊢;exact h
 |.str _,_,_,h=>by rw [Den]at h ⊢;exact h
 |.loc _ _,_,_,h=>by rw [Den]at h ⊢;exact h
 |.osl _,_,_,h=>by rw [Den]at h ⊢;exact h
 |.nso _,_,_,h=>by rw [Den]at h ⊢;exact h
 |.noe ..,_,_,h=>by rw [Den]at h ⊢;exact h
 |.sub ..,_,_,h=>by rw [Den]at h ⊢;exact h
 |.oel ..,_,_,h=>by rw [Den]at h ⊢;exact h
 |.vel ..,_,_,h=>by rw [Den]at h ⊢;exact h
 |.vsl ..,_,_,h=>by rw [Den]at h ⊢;exact h
 |.av ..,_,_,h=>by
   rw [Den]at h ⊢;obtain⟨uss,h1,h2,h3⟩:=h;exact⟨uss,h1,h2.le hm,h3⟩
 |.lst ..,_,_,h=>by rw [Den]at h ⊢;exact h.le hm
 |.fp cs o,_,_,h=>by
   rw [Den]at h ⊢;obtain⟨b,q,us,h1,h2,h3,h4⟩:=h;exact⟨b,q,us,h1,(hm.S b h2).1,at_same h3 (hm.S b h2).2,DenL.le hm cs h4⟩
 |.fvec ..,_,_,h=>by
   rw [Den]at h ⊢;obtain⟨b,q,us,h1,h2,h3,h4⟩:=h;exact⟨b,q,us,h1,(hm.S b h2).1,at_same h3 (hm.S b h2).2,h4.1.le hm,h4.2⟩
 |.fsl cs,_,_,h=>by
   rw [Den]at h ⊢;obtain⟨b,q,us,h1,h0,h2,h3,h4⟩:=h;exact⟨b,q,us,h1,h0,(hm.S b h2).1,at_same h3 (hm.S b h2).2,DenL.le hm cs h4⟩
 |.agg l,_,_,h=>by
   rw [Den]at h ⊢;obtain⟨us,h1,h2⟩:=h;exact⟨us,h1,DenL.le hm l h2⟩
 |.tup l,_,_,h=>by
   rw [Den]at h ⊢;obtain⟨us,h1,h2⟩:=h;exact⟨us,h1,DenL.le hm l h2⟩
 |.clo f fs cs,_,_,h=>by
   rw [Den]at h ⊢;obtain⟨us,vs,h1,h2,h3⟩:=h;exact⟨us,vs,h1,DenL.le hm fs h2,DenL.le hm cs h3⟩
 |.ifc t x,_,_,h=>by
   rw [Den]at h ⊢;obtain⟨u,h1,h2⟩:=h;exact⟨u,h1,Den.le hm x h2⟩
 |.un,_,_,_=>by rw [Den];trivial
theorem DenL.le (hm:m.le m'):∀ (l:List SV) {ids:List Value} {us:List Value},DenL m ids l us→DenL m' ids l us
 |[],_,_,h=>by rw [DenL]at h ⊢;exact h
 |s::r,_,_,h=>by
   rw [DenL]at h ⊢;obtain⟨u,us',h1,h2,h3⟩:=h;exact⟨u,us',h1,Den.le hm s h2,DenL.le hm r h3⟩
end
section
universe u
def nth {α:Type u}:List α→Nat→Option α
 |[],_=>none
 |x::_,0=>some x
 |_::r,n+1=>nth r n
theorem nth_eq {α:Type u}:∀ (l:List α) (i:Nat),nth l i=l[i]?
 |[],_=>rfl
 |_::_,0=>rfl
 |_::r,i+1=>by simp only [nth,List.getElem?_cons_succ];exact nth_eq r i
end
def rn (n z:Nat) (r:List Nat) (i:Nat):Nat:=match Nat.blt i n with
 |true=>i
 |false=>match nth r (i-n)with
   |some j=>j
   |none=>i+z
mutual
def ren (n z:Nat) (r:List Nat):SV→SV
 |.loc i o=>.loc (rn n z r i) o
 |.osl i=>.osl (rn n z r i)
 |.nso i=>.nso (rn n z r i)
 |.noe i k=>.noe (rn n z r i) k
 |.sub i c lo hi=>.sub (rn n z r i) c lo hi
 |.oel i c k o=>.oel (rn n z r i) c k o
 |.vel i c N k o=>.vel (rn n z r i) c N k o
 |.vsl i c N lo hi=>.vsl (rn n z r i) c N lo hi
 |.fp cs o=>.fp (renL n z r cs) o
 |.fsl cs=>.fsl (renL n z r cs)
 |.agg l=>.agg (renL n z r l)
 |.tup l=>.tup (renL n z r l)
 |.clo f fs cs=>.clo f (renL n z r fs) (renL n z r cs)
 |.ifc t x=>.ifc t (ren n z r x)
 |s=>s
def renL (n z:Nat) (r:List Nat):List SV→List SV
 |[]=>[]
 |s::l=>ren n z r s::renL n z r l
end
def Rn (n z:Nat) (r:List Nat) (ids ids':List Value):Prop:=∀ i,i<ids.length→ids[i]?=ids'[rn n z r i]?
section
variable {n z:Nat} {r:List Nat}
theorem rn_get (hr:Rn n z r ids ids') {i:Nat} {v:Value} (h:ids[i]?=some v):ids'[rn n z r i]?=some v:=by
 rw [← hr i (List.getElem?_eq_some_iff.1 h).1];exact h
mutual
theorem Den.ren (hr:Rn n z r ids ids'):∀ (s:SV) {y:Value},Den m ids s y→Den m ids' (SX.ren n z r s) y
 |.v x,y,h=>(by rw [Den]at h ⊢;exact h:Den m ids' (.v x) y)
 |.i x,y,h=>(by rw [Den]at h ⊢;exact h:Den m ids' (.i x) y)
 |.b x,y,h=>(by rw [Den]at h ⊢;exact h:Den m ids' (.b x) y)
 |.w8 x,y,h=>(by rw [Den]at h ⊢;exact h:Den m ids' (.w8 x) y)
 |.w32 x,y,h=>(by rw [Den]at h ⊢;exact h:Den m ids' (.w32 x) y)
 |.w64 x,y,h=>(by rw [Den]at h ⊢;exact h:Den m ids' (.w64 x) y)
 |.str x,y,h=>(by rw [Den]at h ⊢;exact h:Den m ids' (.str x) y)
 |.loc _ _,_,h=>by rw [SX.ren];rw [Den]at h ⊢;obtain⟨b,h1,h2⟩:=h;exact⟨b,rn_get hr h1,h2⟩
 |.osl _,_,h=>by rw [SX.ren];rw [Den]at h ⊢;exact⟨rn_get hr h.1,h.2⟩
 |.nso _,_,h=>by rw [SX.ren];rw [Den]at h ⊢;obtain⟨vs,h1,h2⟩:=h;exact⟨vs,rn_get hr h1,h2⟩
 |.noe ..,_,h=>by rw [SX.ren];rw [Den]at h ⊢;obtain⟨b,q,n,c,vs,h1,h2⟩:=h;exact⟨b,q,n,c,vs,rn_get hr h1,h2⟩
 |.sub ..,_,h=>by rw [SX.ren];rw [Den]at h ⊢;obtain⟨a,n,cp,h1,h2⟩:=h;exact⟨a,n,cp,rn_get hr h1,h2⟩
 |.oel ..,_,h=>by rw [SX.ren];rw [Den]at h ⊢;obtain⟨b,q,n,c,h1,h2⟩:=h;exact⟨b,q,n,c,rn_get hr h1,h2⟩
 |.vel ..,_,h=>by rw [SX.ren];rw [Den]at h ⊢;obtain⟨b,h1,h2⟩:=h;exact⟨b,rn_get hr h1,h2⟩
 |.vsl ..,_,h=>by rw [SX.ren];rw [Den]at h ⊢;obtain⟨b,h1,h2⟩:=h;exact⟨b,rn_get hr h1,h2⟩
 |.av c N l,y,h=>(by rw [Den]at h ⊢;exact h:Den m ids' (.av c N l) y)
 |.lst k c l,y,h=>(by rw [Den]at h ⊢;exact h:Den m ids' (.lst k c l) y)
 |.fp cs _,_,h=>by rw [SX.ren];rw [Den]at h ⊢;obtain⟨b,q,us,h1,h2,h3,h4⟩:=h;exact⟨b,q,us,h1,h2,h3,DenL.ren hr cs h4⟩
 |.fvec c N l,y,h=>(by rw [Den]at h ⊢;exact h:Den m ids' (.fvec c N l) y)
 |.fsl cs,_,h=>by rw [SX.ren];rw [Den]at h ⊢;obtain⟨b,q,us,h1,h0,h2,h3,h4⟩:=h;exact⟨b,q,us,h1,h0,h2,h3,DenL.ren hr cs h4⟩
 |.agg l,_,h=>by rw [SX.ren];rw [Den]at h ⊢;obtain⟨us,h1,h2⟩:=h;exact⟨us,h1,DenL.ren hr l h2⟩
 |.tup l,_,h=>by rw [SX.ren];rw [Den]at h ⊢;obtain⟨us,h1,h2⟩:=h;exact⟨us,h1,DenL.ren hr l h2⟩
 |.clo f fs cs,_,h=>by rw [SX.ren];rw [Den]at h ⊢;obtain⟨us,vs,h1,h2,h3⟩:=h;exact⟨us,vs,h1,DenL.ren hr fs h2,DenL.ren hr cs h3⟩
 |.ifc t x,_,h=>by rw [SX.ren];rw [Den]at h ⊢;obtain⟨u,h1,h2⟩:=h;exact⟨u,h1,Den.ren hr x h2⟩
 |.un,y,_=>(by rw [Den];trivial:Den m ids' .un y)
theorem DenL.ren (hr:Rn n z r ids ids'):∀ (l:List SV) {us:List Value},DenL m ids l us→DenL m ids' (renL n z r l) us
 |[],_,h=>by rw [renL];rw [DenL]at h ⊢;exact h
 |s::l,_,h=>by rw [renL];rw [DenL]at h ⊢;obtain⟨u,us',h1,h2,h3⟩:=h;exact⟨u,us',h1,Den.ren hr s h2,DenL.ren hr l h3⟩
end
end
def Rn' (n z:Nat) (r:List Nat) (ids ids':List Value):Prop:=∀ i,ids[i]?=ids'[rn n z r i]?
section
variable {n z:Nat} {r:List Nat}
mutual
theorem Den.unren (hr:Rn' n z r ids ids'):∀ (s:SV) {y:Value},Den m ids' (SX.ren n z r s) y→Den m ids s y
 |.v x,y,h=>(by have h:Den m ids' (.v x) y:=h;rw [Den]at h ⊢;exact h)
 |.i x,y,h=>(by have h:Den m ids' (.i x) y:=h;rw [Den]at h ⊢;exact h)
 |.b x,y,h=>(by have h:Den m ids' (.b x) y:=h;rw [Den]at h ⊢;exact h)
 |.w8 x,y,h=>(by have h:Den m ids' (.w8 x) y:=h;rw [Den]at h ⊢;exact h)
 |.w32 x,y,h=>(by have h:Den m ids' (.w32 x) y:=h;rw [Den]at h ⊢;exact h)
 |.w64 x,y,h=>(by have h:Den m ids' (.w64 x) y:=h;rw [Den]at h ⊢;exact h)
 |.str x,y,h=>(by have h:Den m ids' (.str x) y:=h;rw [Den]at h ⊢;exact h)
 |.loc i _,_,h=>by rw [SX.ren]at h;rw [Den]at h ⊢;rw [hr i];exact h
 |.osl i,_,h=>by rw [SX.ren]at h;rw [Den]at h ⊢;rw [hr i];exact h
 |.nso i,_,h=>by rw [SX.ren]at h;rw [Den]at h ⊢;rw [hr i];exact h
 |.noe i ..,_,h=>by rw [SX.ren]at h;rw [Den]at h ⊢;rw [hr i];exact h
 |.sub i ..,_,h=>by rw [SX.ren]at h;rw [Den]at h ⊢;rw [hr i];exact h
 |.oel i ..,_,h=>by rw [SX.ren]at h;rw [Den]at h ⊢;rw [hr i];exact h
 |.vel i ..,_,h=>by rw [SX.ren]at h;rw [Den]at h ⊢;rw [hr i];exact h
 |.vsl i ..,_,h=>by rw [SX.ren]at h;rw [Den]at h ⊢;rw [hr i];exact h
 |.av c N l,y,h=>(by have h:Den m ids' (.av c N l) y:=h;rw [Den]at h ⊢;exact h)
 |.lst k c l,y,h=>(by have h:Den m ids' (.lst k c l) y:=h;rw [Den]at h ⊢;exact h)
 |.fp cs _,_,h=>by rw [SX.ren]at h;rw [Den]at h ⊢;obtain⟨b,q,us,h1,h2,h3,h4⟩:=h;exact⟨b,q,us,h1,h2,h3,DenL.unren hr cs h4⟩
 |.fvec c N l,y,h=>(by have h:Den m ids' (.fvec c N l) y:=h;rw [Den]at h ⊢;exact h)
 |.fsl cs,_,h=>by rw [SX.ren]at h;rw [Den]at h ⊢;obtain⟨b,q,us,h1,h0,h2,h3,h4⟩:=h;exact⟨b,q,us,h1,h0,h2,h3,DenL.unren hr cs h4⟩
 |.agg l,_,h=>by rw [SX.ren]at h;rw [Den]at h ⊢;obtain⟨us,h1,h2⟩:=h;exact⟨us,h1,DenL.unren hr l h2⟩
 |.tup l,_,h=>by rw [SX.ren]at h;rw [Den]at h ⊢;obtain⟨us,h1,h2⟩:=h;exact⟨us,h1,DenL.unren hr l h2⟩
 |.clo f fs cs,_,h=>by rw [SX.ren]at h;rw [Den]at h ⊢;obtain⟨us,vs,h1,h2,h3⟩:=h;exact⟨us,vs,h1,DenL.unren hr fs h2,DenL.unren hr cs h3⟩
 |.ifc t x,_,h=>by rw [SX.ren]at h;rw [Den]at h ⊢;obtain⟨u,h1,h2⟩:=h;exact⟨u,h1,Den.unren hr x h2⟩
 |.un,_,_=>by rw [Den];trivial
theorem DenL.unren (hr:Rn' n z r ids ids'):∀ (l:List SV) {us:List Value},DenL m ids' (renL n z r l) us→DenL m ids l us
 |[],_,h=>by rw [renL]at h;rw [DenL]at h ⊢;exact h
 |s::l,_,h=>by rw [renL]at h;rw [DenL]at h ⊢;obtain⟨u,us',h1,h2,h3⟩:=h;exact⟨u,us',h1,Den.unren hr s h2,DenL.unren hr l h3⟩
end
end
theorem get_app {i:Nat} {e:List Value} {v:Value} (h:ids[i]?=some v):(ids++e)[i]?=some v:=by
 rw [List.getElem?_append_left (List.getElem?_eq_some_iff.1 h).1];exact h
mutual
theorem Den.app (e:List Value):∀ (s:SV) {y:Value},Den m ids s y→Den m (ids++e) s y
 |.v _,_,h=>by rw [Den]at h ⊢;exact h
 |.i _,_,h=>by rw [Den]at h ⊢;exact h
 |.b _,_,h=>by rw [Den]at h ⊢;exact h
 |.w8 _,_,h=>by rw [Den]at h ⊢;exact h
 |.w32 _,_,h=>by rw [Den]at h ⊢;exact h
 |.w64 _,_,h=>by rw [Den]at h ⊢;exact h
 |.str _,_,h=>by rw [Den]at h ⊢;exact h
 |.loc _ _,_,h=>by rw [Den]at h ⊢;obtain⟨b,h1,h2⟩:=h;exact⟨b,get_app h1,h2⟩
 |.osl _,_,h=>by rw [Den]at h ⊢;exact⟨get_app h.1,h.2⟩
 |.nso _,_,h=>by rw [Den]at h ⊢;obtain⟨vs,h1,h2⟩:=h;exact⟨vs,get_app h1,h2⟩
 |.noe ..,_,h=>by rw [Den]at h ⊢;obtain⟨b,q,n,c,vs,h1,h2⟩:=h;exact⟨b,q,n,c,vs,get_app h1,h2⟩
 |.sub ..,_,h=>by rw [Den]at h ⊢;obtain⟨b,q,n,h1,h2⟩:=h;exact⟨b,q,n,get_app h1,h2⟩
 |.oel ..,_,h=>by rw [Den]at h ⊢;obtain⟨b,q,n,c,h1,h2⟩:=h;exact⟨b,q,n,c,get_app h1,h2⟩
 |.vel ..,_,h=>by rw [Den]at h ⊢;obtain⟨b,h1,h2⟩:=h;exact⟨b,get_app h1,h2⟩
 |.vsl ..,_,h=>by rw [Den]at h ⊢;obtain⟨b,h1,h2⟩:=h;exact⟨b,get_app h1,h2⟩
 |.av ..,_,h=>by rw [Den]at h ⊢;exact h
 |.lst ..,_,h=>by rw [Den]at h ⊢;exact h
 |.fp cs _,_,h=>by rw [Den]at h ⊢;obtain⟨b,q,us,h1,h2,h3,h4⟩:=h;exact⟨b,q,us,h1,h2,h3,DenL.app e cs h4⟩
 |.fvec ..,_,h=>by rw [Den]at h ⊢;exact h
 |.fsl cs,_,h=>by rw [Den]at h ⊢;obtain⟨b,q,us,h1,h0,h2,h3,h4⟩:=h;exact⟨b,q,us,h1,h0,h2,h3,DenL.app e cs h4⟩
 |.agg l,_,h=>by rw [Den]at h ⊢;obtain⟨us,h1,h2⟩:=h;exact⟨us,h1,DenL.app e l h2⟩
 |.tup l,_,h=>by rw [Den]at h ⊢;obtain⟨us,h1,h2⟩:=h;exact⟨us,h1,DenL.app e l h2⟩
 |.clo _ fs cs,_,h=>by rw [Den]at h ⊢;obtain⟨us,vs,h1,h2,h3⟩:=h;exact⟨us,vs,h1,DenL.app e fs h2,DenL.app e cs h3⟩
 |.ifc _ x,_,h=>by rw [Den]at h ⊢;obtain⟨u,h1,h2⟩:=h;exact⟨u,h1,Den.app e x h2⟩
 |.un,_,_=>by rw [Den];trivial
theorem DenL.app (e:List Value):∀ (l:List SV) {us:List Value},DenL m ids l us→DenL m (ids++e) l us
 |[],_,h=>by rw [DenL]at h ⊢;exact h
 |s::r,_,h=>by rw [DenL]at h ⊢;obtain⟨u,us',h1,h2,h3⟩:=h;exact⟨u,us',h1,Den.app e s h2,DenL.app e r h3⟩
end
theorem tup_inj {i:Nat} {v w:Value} {vs us:List Value} (h:ids[i]?=some (.tuple (v::vs).toArray)) (h':ids[i]?=some (.tuple (w::us).toArray)):v=w∧vs=us:=by
 rw [h]at h';injection h' with h'
 injection h' with h'
 have:=congrArg Array.toList h';simp only [List.cons.injEq]at this;exact this
theorem get_set {i j:Nat} {us:List Value} {t u:Value} (hi:ids[i]?=some (.tuple us.toArray)) (h:ids[j]?=some u) (hu:∀ a,u≠.tuple a):(ids.set i t)[j]?=some u:=by
 rw [List.getElem?_set_ne]
 ·exact h
 ·intro e;subst e;rw [hi]at h;cases h;exact hu _ rfl
theorem get_setT {i j:Nat} {v w:Value} {vs vs' us:List Value} (hi:ids[i]?=some (.tuple (v::vs).toArray)) (h:ids[j]?=some (.tuple (w::us).toArray)):∃ us',(ids.set i (.tuple (v::vs').toArray))[j]?=some (.tuple (w::us').toArray):=by
 by_cases e:i=j
 ·subst e;rw [hi]at h;injection h with h
  injection h with h
  have:=congrArg Array.toList h;simp only [List.cons.injEq]at this;obtain⟨rfl,rfl⟩:=this;have hl:=(List.getElem?_eq_some_iff.1 hi).1;exact⟨vs',by rw [List.getElem?_set_self hl]⟩
 ·exact⟨us,by rw [List.getElem?_set_ne e];exact h⟩
mutual
theorem Den.set {i:Nat} {v:Value} {vs vs':List Value} (hi:ids[i]?=some (.tuple (v::vs).toArray)):∀ (s:SV) {y:Value},Den m ids s y→Den m (ids.set i (.tuple (v::vs').toArray)) s y
 |.v _,_,h=>by rw [Den]at h ⊢;exact h
 |.i _,_,h=>by rw [Den]at h ⊢;exact h
 |.b _,_,h=>by rw [Den]at h ⊢;exact h
 |.w8 _,_,h=>by rw [Den]at h ⊢;exact h
 |.w32 _,_,h=>by rw [Den]at h ⊢;exact h
 |.w64 _,_,h=>by rw [Den]at h ⊢;exact h
 |.str _,_,h=>by rw [Den]at h ⊢;exact h
 |.loc _ _,_,h=>by rw [Den]at h ⊢;obtain⟨b,h1,h2⟩:=h;exact⟨b,get_set hi h1 (fun _=>by simp),h2⟩
 |.osl _,_,h=>by
   rw [Den]at h ⊢;refine⟨get_set hi h.1 fun a e=>?_,h.2⟩
   rw [e]at h;cases h.2
 |.nso _,_,h=>by rw [Den]at h ⊢;obtain⟨us,h1,h2⟩:=h;obtain⟨us',h3⟩:=get_setT (vs':=vs') hi h1;exact⟨us',h3,h2⟩
 |.noe ..,_,h=>by rw [Den]at h ⊢;obtain⟨b,q,n,c,us,h1,h2⟩:=h;obtain⟨us',h3⟩:=get_setT (vs':=vs') hi h1;exact⟨b,q,n,c,us',h3,h2⟩
 |.sub ..,_,h=>by rw [Den]at h ⊢;obtain⟨b,q,n,h1,h2⟩:=h;exact⟨b,q,n,get_set hi h1 (fun _=>by simp),h2⟩
 |.oel ..,_,h=>by rw [Den]at h ⊢;obtain⟨b,q,n,c,h1,h2⟩:=h;exact⟨b,q,n,c,get_set hi h1 (fun _=>by simp),h2⟩
 |.vel ..,_,h=>by rw [Den]at h ⊢;obtain⟨b,h1,h2⟩:=h;exact⟨b,get_set hi h1 (fun _=>by simp),h2⟩
 |.vsl ..,_,h=>by rw [Den]at h ⊢;obtain⟨b,h1,h2⟩:=h;exact⟨b,get_set hi h1 (fun _=>by simp),h2⟩
 |.av ..,_,h=>by rw [Den]at h ⊢;exact h
 |.lst ..,_,h=>by rw [Den]at h ⊢;exact h
 |.fp cs _,_,h=>by rw [Den]at h ⊢;obtain⟨b,q,us,h1,h2,h3,h4⟩:=h;exact⟨b,q,us,h1,h2,h3,DenL.set hi cs h4⟩
 |.fvec ..,_,h=>by rw [Den]at h ⊢;exact h
 |.fsl cs,_,h=>by rw [Den]at h ⊢;obtain⟨b,q,us,h1,h0,h2,h3,h4⟩:=h;exact⟨b,q,us,h1,h0,h2,h3,DenL.set hi cs h4⟩
 |.agg l,_,h=>by rw [Den]at h ⊢;obtain⟨us,h1,h2⟩:=h;exact⟨us,h1,DenL.set hi l h2⟩
 |.tup l,_,h=>by rw [Den]at h ⊢;obtain⟨us,h1,h2⟩:=h;exact⟨us,h1,DenL.set hi l h2⟩
 |.clo _ fs cs,_,h=>by rw [Den]at h ⊢;obtain⟨us,vs,h1,h2,h3⟩:=h;exact⟨us,vs,h1,DenL.set hi fs h2,DenL.set hi cs h3⟩
 |.ifc _ x,_,h=>by rw [Den]at h ⊢;obtain⟨u,h1,h2⟩:=h;exact⟨u,h1,Den.set hi x h2⟩
 |.un,_,_=>by rw [Den];trivial
theorem DenL.set {i:Nat} {v:Value} {vs vs':List Value} (hi:ids[i]?=some (.tuple (v::vs).toArray)):∀ (l:List SV) {us:List Value},DenL m ids l us→DenL m (ids.set i (.tuple (v::vs').toArray)) l us
 |[],_,h=>by rw [DenL]at h ⊢;exact h
 |s::r,_,h=>by rw [DenL]at h ⊢;obtain⟨u,us',h1,h2,h3⟩:=h;exact⟨u,us',h1,Den.set hi s h2,DenL.set hi r h3⟩
end
theorem DenL.length:∀ {l:List SV} {us:List Value},DenL m ids l us→us.length=l.length
 |[],_,h=>by rw [DenL]at h;rw [h];rfl
 |_::r,_,h=>by rw [DenL]at h;obtain⟨u,us',rfl,_,h3⟩:=h;simp [DenL.length h3]
theorem DenL.get:∀ {l:List SV} {us:List Value},DenL m ids l us→∀ {i:Nat} {s:SV},l[i]?=some s→∃ u,us[i]?=some u∧Den m ids s u
 |[],_,_,i,s,h=>by simp at h
 |t::r,_,h,i,s,hi=>by
   rw [DenL]at h;obtain⟨u,us',rfl,h2,h3⟩:=h
   cases i with
   |zero=>simp only [List.getElem?_cons_zero,Option.some.injEq]at hi;subst hi;exact⟨u,rfl,h2⟩
   |succ i=>simp only [List.getElem?_cons_succ]at hi ⊢;exact DenL.get h3 hi
theorem DenL.append {l l':List SV} {us us':List Value} (h:DenL m ids l us) (h':DenL m ids l' us'):DenL m ids (l++l') (us++us'):=by
 induction l generalizing us with
 |nil=>rw [DenL]at h;subst h;exact h'
 |cons s r ih =>
   rw [DenL]at h;obtain⟨u,us1,rfl,h2,h3⟩:=h;rw [List.cons_append,List.cons_append,DenL];exact⟨u,us1++us',rfl,h2,ih h3⟩
theorem DenL.nil {us:List Value} (h:DenL m ids [] us):us=[]:=by rw [DenL]at h;exact h
theorem DenL.drop:∀ {l:List SV} {us:List Value} (n:Nat),DenL m ids l us→DenL m ids (l.drop n) (us.drop n)
 |_,_,0,h=>h
 |[],_,n+1,h=>by rw [DenL]at h;subst h;simp only [List.drop_nil];rw [DenL]
 |_::r,_,n+1,h=>by
   rw [DenL]at h;obtain⟨u,us',rfl,_,h3⟩:=h;simp only [List.drop_succ_cons];exact DenL.drop n h3
theorem DenL.take:∀ {l:List SV} {us:List Value} (n:Nat),DenL m ids l us→DenL m ids (l.take n) (us.take n)
 |_,_,0,_=>by simp only [List.take_zero];rw [DenL]
 |[],_,n+1,h=>by rw [DenL]at h;subst h;simp only [List.take_nil];rw [DenL]
 |_::r,_,n+1,h=>by
   rw [DenL]at h;obtain⟨u,us',rfl,h2,h3⟩:=h;simp only [List.take_succ_cons];rw [DenL];exact⟨u,_,rfl,h2,DenL.take n h3⟩
end
def asI:SV→Option Int
 |.i n=>some n
 |_=>none
def asB:SV→Option Bool
 |.b n=>some n
 |_=>none
def asS:SV→Option ByteArray
 |.str n=>some n
 |_=>none
def as8:SV→Option UInt8
 |.w8 n=>some n
 |_=>none
def as32:SV→Option UInt32
 |.w32 n=>some n
 |_=>none
def as64:SV→Option UInt64
 |.w64 n=>some n
 |_=>none
def castL (c d:Nat) (l:List (TabT c)):Option (List (TabT d)):=match Nat.decEq c d with
 |isTrue h=>(h▸(some l:Option (List (TabT c))):Option (List (TabT d)))
 |isFalse _=>none
def asL (d:Nat):SV→Option (List (TabT d))
 |.lst _ c l=>castL c d l
 |.v (.slice none 0 0)=>some []
 |_=>none
theorem castL_some {c d:Nat} {l:List (TabT c)} {l':List (TabT d)} (h:castL c d l=some l'):∃ e:c=d,e▸l=l':=by
 unfold castL at h;split at h
 ·rename_i e _;subst e;exact⟨rfl,by simpa using h⟩
 ·cases h
section
variable {m:Mm} {ids:List Value} {s:SV} {y:Value}
theorem asI_ok {n:Int} (h:asI s=some n) (hd:Den m ids s y):(CP.int n).p m y:=by
 unfold asI at h;split at h
 ·cases h;rw [Den]at hd;exact hd
 ·cases h
theorem asB_ok {n:Bool} (h:asB s=some n) (hd:Den m ids s y):(CP.bool n).p m y:=by
 unfold asB at h;split at h
 ·cases h;rw [Den]at hd;exact hd
 ·cases h
theorem asS_ok {n:ByteArray} (h:asS s=some n) (hd:Den m ids s y):(CP.str n).p m y:=by
 unfold asS at h;split at h
 ·cases h;rw [Den]at hd;exact hd
 ·cases h
theorem as8_ok {n:UInt8} (h:as8 s=some n) (hd:Den m ids s y):(CP.w8 n).p m y:=by
 unfold as8 at h;split at h
 ·cases h;rw [Den]at hd;exact hd
 ·cases h
theorem as32_ok {n:UInt32} (h:as32 s=some n) (hd:Den m ids s y):(CP.w32 n).p m y:=by
 unfold as32 at h;split at h
 ·cases h;rw [Den]at hd;exact hd
 ·cases h
theorem as64_ok {n:UInt64} (h:as64 s=some n) (hd:Den m ids s y):(CP.w64 n).p m y:=by
 unfold as64 at h;split at h
 ·cases h;rw [Den]at hd;exact hd
 ·cases h
theorem asL_ok {d:Nat} {l:List (TabT d)} (h:asL d s=some l) (hd:Den m ids s y):(CP.lst (KT d) (BT d) (TabD d) l).p m y:=by
 unfold asL at h;split at h
 ·rename_i z c l';obtain⟨e,h⟩:=castL_some h;subst e;cases h;rw [Den]at hd;exact hd.anyZ
 ·cases h;rw [Den]at hd;subst hd;exact⟨[],⟨by simp,.inl ⟨⟨_,rfl⟩,rfl⟩⟩,Elts.nil,fun h=>absurd rfl h,trivial,by simp⟩
 ·cases h
end
end Go.SX
