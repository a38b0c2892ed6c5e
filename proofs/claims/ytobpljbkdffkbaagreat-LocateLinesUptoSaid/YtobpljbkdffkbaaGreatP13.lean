/- A part of the proof (texts Types, Law, List, Range, Iter, Cell, Spec, Base, RangeA). -/
import Derived.Carry
import Derived.Deep.Slices
import Derived.Lib.SmallJoins
import Derived.OpenShut
import Derived.ProofKit
import Derived.RangeFuncLeaves
import Derived.RangeFuncOwn
import Derived.Test.YtobpljbkdffkbaaGreatP02
import Derived.Test.YtobpljbkdffkbaaGreatP03
import Derived.Test.YtobpljbkdffkbaaGreatRows
import GoSem.Core.View
set_option linter.all false
set_option maxRecDepth 100000
namespace Go.Proofs.YtobpljbkdffkbaaGreat
open Go.XK
theorem inf3:Inf Tryz.prog 3 (.int .i64 0) 1 8:=by unfold Inf;kernel_rfl
theorem flat3:Flat Tryz.prog 3:=by unfold Flat;kernel_rfl
theorem inf4:Inf Tryz.prog 4 (.bool false) 1 1:=by unfold Inf;kernel_rfl
theorem flat4:Flat Tryz.prog 4:=by unfold Flat;kernel_rfl
theorem inf9:Inf Tryz.prog 9 (.string ByteArray.empty) 1 16:=by unfold Inf;kernel_rfl
theorem flat9:Flat Tryz.prog 9:=by unfold Flat;kernel_rfl
theorem inf25:Inf Tryz.prog 25 (.slice none 0 0) 1 24:=by unfold Inf;kernel_rfl
theorem flat25:Flat Tryz.prog 25:=by unfold Flat;kernel_rfl
theorem inf29:Inf Tryz.prog 29 (.slice none 0 0) 1 24:=by unfold Inf;kernel_rfl
theorem flat29:Flat Tryz.prog 29:=by unfold Flat;kernel_rfl
theorem inf30:Inf Tryz.prog 30 (.slice none 0 0) 1 24:=by unfold Inf;kernel_rfl
theorem flat30:Flat Tryz.prog 30:=by unfold Flat;kernel_rfl
theorem inf31:Inf Tryz.prog 31 (.slice none 0 0) 1 24:=by unfold Inf;kernel_rfl
theorem flat31:Flat Tryz.prog 31:=by unfold Flat;kernel_rfl
theorem inf32:Inf Tryz.prog 32 (.slice none 0 0) 1 24:=by unfold Inf;kernel_rfl
theorem flat32:Flat Tryz.prog 32:=by unfold Flat;kernel_rfl
theorem inf36:Inf Tryz.prog 36 (.agg #[.slice none 0 0,.slice none 0 0,.slice none 0 0,.slice none 0 0,.slice none 0 0,.slice none 0 0]) 6 144:=by unfold Inf;kernel_rfl
theorem agg39:Aggr Tryz.prog 39 26:=by unfold Aggr;kernel_rfl
theorem inf43:Inf Tryz.prog 43 (.agg #[.int .i64 0,.int .i64 0,.string ByteArray.empty,.int .i64 0]) 4 40:=by unfold Inf;kernel_rfl
theorem agg43:Aggr Tryz.prog 43 4:=by unfold Aggr;kernel_rfl
theorem inf46:Inf Tryz.prog 46 (.agg #[.string ByteArray.empty,.int .i64 0,.string ByteArray.empty,.int .i64 0,.slice none 0 0]) 5 72:=by unfold Inf;kernel_rfl
theorem agg46:Aggr Tryz.prog 46 5:=by unfold Aggr;kernel_rfl
theorem inf53:Inf Tryz.prog 53 (.agg #[.string ByteArray.empty,.int .i64 0,.int .i64 0,.int .i64 0]) 4 40:=by unfold Inf;kernel_rfl
theorem agg53:Aggr Tryz.prog 53 4:=by unfold Aggr;kernel_rfl
theorem inf57:Inf Tryz.prog 57 (.agg #[.int .i64 0,.int .i64 0,.int .i64 0,.string ByteArray.empty,.string ByteArray.empty,.int .i64 0]) 6 64:=by unfold Inf;kernel_rfl
theorem agg57:Aggr Tryz.prog 57 6:=by unfold Aggr;kernel_rfl
theorem flat61:Flat Tryz.prog 61:=by unfold Flat;kernel_rfl
theorem inf65:Inf Tryz.prog 65 (.agg #[.int .i64 0,.int .i64 0]) 2 16:=by unfold Inf;kernel_rfl
theorem agg65:Aggr Tryz.prog 65 2:=by unfold Aggr;kernel_rfl
theorem inf68:Inf Tryz.prog 68 (.nilFunc) 1 8:=by unfold Inf;kernel_rfl
theorem flat68:Flat Tryz.prog 68:=by unfold Flat;kernel_rfl
theorem flat74:Flat Tryz.prog 74:=by unfold Flat;kernel_rfl
theorem flat81:Flat Tryz.prog 81:=by unfold Flat;kernel_rfl
theorem fok22:FnOK Tryz.prog 22:=by unfold FnOK;kernel_rfl
theorem fok23:FnOK Tryz.prog 23:=by unfold FnOK;kernel_rfl
theorem fok24:FnOK Tryz.prog 24:=by unfold FnOK;kernel_rfl
theorem fok25:FnOK Tryz.prog 25:=by unfold FnOK;kernel_rfl
theorem fok26:FnOK Tryz.prog 26:=by unfold FnOK;kernel_rfl
theorem fok27:FnOK Tryz.prog 27:=by unfold FnOK;kernel_rfl
theorem fok28:FnOK Tryz.prog 28:=by unfold FnOK;kernel_rfl
theorem fok29:FnOK Tryz.prog 29:=by unfold FnOK;kernel_rfl
theorem fok30:FnOK Tryz.prog 30:=by unfold FnOK;kernel_rfl
theorem fok31:FnOK Tryz.prog 31:=by unfold FnOK;kernel_rfl
theorem fok32:FnOK Tryz.prog 32:=by unfold FnOK;kernel_rfl
theorem fok33:FnOK Tryz.prog 33:=by unfold FnOK;kernel_rfl
theorem fok34:FnOK Tryz.prog 34:=by unfold FnOK;kernel_rfl
theorem fok35:FnOK Tryz.prog 35:=by unfold FnOK;kernel_rfl
theorem fok36:FnOK Tryz.prog 36:=by unfold FnOK;kernel_rfl
theorem fok37:FnOK Tryz.prog 37:=by unfold FnOK;kernel_rfl
theorem fok84:FnOK Tryz.prog 84:=by unfold FnOK;kernel_rfl
theorem fok87:FnOK Tryz.prog 87:=by unfold FnOK;kernel_rfl
theorem fok88:FnOK Tryz.prog 88:=by unfold FnOK;kernel_rfl
theorem fok89:FnOK Tryz.prog 89:=by unfold FnOK;kernel_rfl
theorem fok90:FnOK Tryz.prog 90:=by unfold FnOK;kernel_rfl
theorem fok91:FnOK Tryz.prog 91:=by unfold FnOK;kernel_rfl
end Go.Proofs.YtobpljbkdffkbaaGreat
namespace Go.XK
open Go.RowKit Go.ChangeShapes Go.WideShapes Go.ChangeAt
section
variable {H:Type} {enc:TypeId×Value→H} {P:Program}
theorem trodAll_below (hl:laidOutB P=true) {W W':World} (hb:Ext W W'):∀ (ts:List TypeId) (vs:List Value) (ds:List (DataW H)) (ps:List MemPlace),
   ts.all (fun t=>P.readableRec t&&Nat.blt t P.types.size)=true→DataW.TrodAll enc P W 0 (fun _=>true) true ts vs ds ps→(∀ x∈ps,x.block<W.heap.size) →
   DataW.TrodAll enc P W' 0 (fun b=>decide (b<W.heap.size)) true ts vs ds ps
 |[],_,_,_,_,h,_=>by
   obtain⟨rfl,rfl,rfl⟩:=trodAll_nil h;exact trodAll_mk0
 |t::ts,vs,ds,ps,hr,h,hlt=>by
   obtain⟨v,vs',d,ds',p,q,rfl,rfl,rfl,h1,h2⟩:=trodAll_cons h;simp only [List.all_cons,Bool.and_eq_true]at hr
   exact trodAll_cons_mk (Below.trod hl hr.1.1 (by simpa using hr.1.2) h1 hb fun x hx=>hlt x (List.mem_append.2 (.inl hx)))
     (trodAll_below hl hb ts vs' ds' q hr.2 h2 fun x hx=>hlt x (List.mem_append.2 (.inr hx)))
theorem trodAll_length {W:World} {base:Nat} {sp:Nat→Bool} {held:Bool}:∀ (ts:List TypeId) (vs:List Value) (ds:List (DataW H)) (ps:List MemPlace),DataW.TrodAll enc P W base sp held ts vs ds ps→ds.length=ts.length
 |[],_,_,_,h=>by
   obtain⟨_,rfl,_⟩:=trodAll_nil h;rfl
 |t::ts,_,_,_,h=>by
   obtain⟨v,vs',d,ds',p,q,_,rfl,_,_,h2⟩:=trodAll_cons h;simp [trodAll_length ts vs' ds' q h2]
end
theorem list_of {α:Type} {Q:Nat→α→Prop}:∀ n:Nat,(∀ i,i<n→∃ x,Q i x)→∃ l:List α,l.length=n∧∀ i (h:i<l.length),Q i l[i]
 |0,_=>⟨[],rfl,fun i h=>absurd h (Nat.not_lt_zero i)⟩
 |n+1,h=>by
   obtain⟨l,hl,hq⟩:=list_of n fun i hi=>h i (Nat.lt_succ_of_lt hi)
   obtain⟨x,hx⟩:=h n (Nat.lt_succ_self n);refine⟨l++[x],by simp [hl],fun i hi=>?_⟩
   rw [List.getElem_append];split
   ·exact hq i (by assumption)
   ·have:i=n:=by simp at hi;omega
    subst this;simpa [hl] using hx
end Go.XK
namespace Go.XK
open Go.RowKit Go.ChangeShapes Go.WideShapes
def Elems (w:World) (K:Nat) (v:Value) (css:List (List Value)):Prop:=Reads w K v css.length css.flatten∧∀ c∈css,c.length=K
theorem flatten_get {K:Nat}:∀ (css:List (List Value)) (i j:Nat),(∀ c∈css,c.length=K)→∀ (hi:i<css.length),j<K→css.flatten[i*K+j]?=css[i][j]?
 |[],i,_,_,hi,_=>absurd hi (Nat.not_lt_zero i)
 |c::r,0,j,h,_,hj=>by
   have hc:=h c (List.mem_cons_self ..);rw [List.flatten_cons,Nat.zero_mul,Nat.zero_add,List.getElem?_append_left (by omega)]
   rfl
 |c::r,i+1,j,h,hi,hj=>by
   have hc:=h c (List.mem_cons_self ..);have ih:=flatten_get r i j (fun c hc=>h c (List.mem_cons_of_mem _ hc)) (by simpa using hi) hj
   rw [List.flatten_cons,List.getElem?_append_right (by rw [hc,Nat.add_mul];omega),hc,show(i+1)*K+j-K=i*K+j by rw [Nat.add_mul];omega,ih]
   rfl
theorem Elems.ext {w w':World} {K:Nat} {v:Value} {css:List (List Value)} (h:Elems w K v css) (he:Ext w w'):Elems w' K v css:=⟨h.1.ext he,h.2⟩
theorem Elems.cell {w:World} {K:Nat} {v:Value} {css:List (List Value)} (h:Elems w K v css) {i j:Nat} {u:Value} (hi:i<css.length) (hj:css[i][j]?=some u):w.cell? ⟨blk v,ofs v+i*K+j,none⟩=some u:=by
 have hl:=h.2 _ (List.getElem_mem hi);have hjl:j<K:=by rw [← hl];exact(List.getElem?_eq_some_iff.1 hj).1
 rw [Nat.add_assoc];exact Reads.atB h.1 (Nat.lt_of_le_of_lt (Nat.zero_le _) hi) _ _ (by rw [flatten_get css i j h.2 hi hjl];exact hj)
theorem Elems.at {w:World} {K:Nat} {v:Value} {css:List (List Value)} (h:Elems w K v css) {i:Nat} (hi:i<css.length):At w (blk v) (ofs v+i*K) css[i]:=fun _ _ hj=>h.cell hi hj
theorem Elems.of_own {w:World} {base K:Nat} {e:TypeId} {v:Value} {css:List (List Value)} (h:w.ownsRow base e K v css.length css.flatten) (hK:∀ c∈css,c.length=K):Elems w K v css:=⟨Reads.of_own h,hK⟩
def ListR {β:Type} (w:World) (K:Nat) (v:Value) (Q:List Value→β→Prop) (bs:List β):Prop :=
 ∃ css,Elems w K v css∧css.length=bs.length∧∀ i (h1:i<css.length) (h2:i<bs.length),Q css[i] bs[i]
theorem ListR.mono {β:Type} {w w':World} {K:Nat} {v:Value} {Q Q':List Value→β→Prop} {bs:List β} (h:ListR w K v Q bs) (he:Ext w w') (hq:∀ c b,Q c b→Q' c b):ListR w' K v Q' bs:=by
 obtain⟨css,h1,h2,h3⟩:=h;exact⟨css,h1.ext he,h2,fun i i1 i2=>hq _ _ (h3 i i1 i2)⟩
theorem ListR.reads {β:Type} {w:World} {K:Nat} {v:Value} {Q:List Value→β→Prop} {bs:List β} (h:ListR w K v Q bs):∃ cs,Reads w K v bs.length cs:=by
 obtain⟨css,h1,h2,_⟩:=h;exact⟨css.flatten,by rw [← h2];exact h1.1⟩
theorem ListR.isS {β:Type} {w:World} {K:Nat} {v:Value} {Q:List Value→β→Prop} {bs:List β} (h:ListR w K v Q bs):IsS v bs.length:=h.reads.elim fun _ h=>Reads.isS h
theorem ListR.isE {β:Type} {w:World} {K:Nat} {v:Value} {Q:List Value→β→Prop} {bs:List β} (h:ListR w K v Q bs) (hn:0<bs.length):IsE v bs.length:=h.reads.elim fun _ h=>Reads.isE h hn
theorem ListR.max {β:Type} {w:World} {K:Nat} {v:Value} {Q:List Value→β→Prop} {bs:List β} (h:ListR w K v Q bs):bs.length≤maxLen:=h.reads.elim fun _ h=>Reads.max h
theorem ListR.elem {β:Type} {w:World} {K:Nat} {v:Value} {Q:List Value→β→Prop} {bs:List β} (h:ListR w K v Q bs) {i:Nat} (hi:i<bs.length):∃ cs,cs.length=K∧At w (blk v) (ofs v+i*K) cs∧Q cs bs[i]:=by
 obtain⟨css,h1,h2,h3⟩:=h;have hc:i<css.length:=by omega
 exact⟨css[i],h1.2 _ (List.getElem_mem hc),h1.at hc,h3 i hc hi⟩
theorem ListR.of_lits {β:Type} {w:World} {v:Value} {enc:β→Value} {l:List β} (h:Reads w 1 v l.length (l.map enc)):ListR w 1 v (fun cs b=>cs=[enc b]) l:=by
 have e:(l.map fun b=>[enc b]).flatten=l.map enc:=by
   induction l with
   |nil=>rfl
   |cons b r ih =>
     have:∀ r:List β,(r.map fun b=>[enc b]).flatten=r.map enc:=by
       intro r
       induction r with
       |nil=>rfl
       |cons b r ih=>simp [ih]
     simp [this]
 refine⟨l.map fun b=>[enc b],⟨by rw [List.length_map,e];exact h,fun c hc=>?_⟩,by simp,fun i h1 h2=>by simp⟩
 obtain⟨b,_,rfl⟩:=List.mem_map.1 hc;rfl
end Go.XK
namespace Go.XK
open Go.RowKit
theorem Mod.then {S S':Nat→Prop} {a b c:World} (h:Mod S a b) (k:Mod S' b c) (hs:∀ x,x<a.heap.size→S' x→S x):Mod S a c :=
 ⟨k.os.trans h.os,k.tape.trans h.tape,k.output.trans h.output,Nat.le_trans h.size k.size,fun x hx hn=>(k.block x (Nat.lt_of_lt_of_le hx h.size) (fun e=>hn (hs x hx e))).trans (h.block x hx hn)⟩
theorem Mod.refl (S:Nat→Prop) (w:World):Mod S w w:=⟨rfl,rfl,rfl,Nat.le_refl _,fun _ _ _=>rfl⟩
theorem Mod.put {S:Nat→Prop} (w:World) {l:Nat} (o:Obj) (h:S l):Mod S w (w.putObj l o) :=
 ⟨rfl,rfl,rfl,by simp,fun k _ hn=>World.putObj_heap_other (fun e=>hn (e▸h))⟩
def Stays (base:Nat) (J:(Nat→Prop)→World→Prop):Prop:=∀ S W W',J S W→Mod (fun b=>base≤b∧¬ S b) W W'→J S W'
def Yields (P:Program) (l:Nat) (args:List Value) (W:World) (R:Value→World→Prop):Prop :=
 ∃ f tmps assign body,(Instr.yield l args.toArray).run P W=.ok (.round l f tmps assign body) W∧RoundIn Fence.wide 0 P l f tmps assign body W (fun e w'=>∃ v,e=.returned v∧R v w')
def SeqC (P:Program) (gf:Nat) (caps:List Value) (mem:Nat→Prop) (xs:List (List Value)) (W0:World):Prop :=
 ∀ (l:Nat) (J:Nat→(Nat→Prop)→World→Prop) (X:(Nat→Prop)→World→Prop),(∀ k,Stays W0.heap.size (J k))→Stays W0.heap.size X→(∀ k S W,J k S W→∀ b,S b→b<W.heap.size) →
   (∀ k S W (hk:k<xs.length),J k S W→Yields P l xs[k] W (fun v W'=>∃ S',Mod S W W'∧(∀ b,b<W.heap.size→S' b→S b)∧((v=.bool true∧J (k+1) S' W')∨(v=.bool false∧X S' W')))) →
   ∀ S,(∀ b,mem b→¬ S b)→J 0 S W0 →
     Calls P gf (.func (.yield l) #[] #[]::caps).toArray W0 (fun e W'=>∃ v S',e=.returned v∧Mod S W0 W'∧(∀ b,b<W0.heap.size→S' b→S b)∧(J xs.length S' W'∨X S' W'))
def RQ (I:Nat→(Nat→Prop)→World→Prop) (Ix:Code→(Nat→Prop)→World→Prop) (k:Nat) (S:Nat→Prop) (W:World):Exit→Act→World→Prop
 |.normal,_,W'=>∃ S',Mod S W W'∧(∀ b,b<W.heap.size→S' b→S b)∧I (k+1) S' W'
 |.ret,_,W'=>∃ S',Mod S W W'∧(∀ b,b<W.heap.size→S' b→S b)∧Ix .ret S' W'
 |.exit id,_,W'=>∃ S',Mod S W W'∧(∀ b,b<W.heap.size→S' b→S b)∧Ix (.exit id) S' W'
 |_,_,_=>False
def mark (D:Nat):Deferred:={ target:=.collected D,args:=#[] }
def penv:List Tmp→List Value→List (Nat×Value)→List (Nat×Value)
 |p::ps,v::vs,env=>penv ps vs ((p,v)::env)
 |_,_,env=>env
theorem OK.pset {N:Nat}:∀ (ps:List Tmp) (vs:List Value) (dl:List Deferred) (tmps:Array Value) (env:List (Nat×Value)),OK dl { tmps:=tmps,defers:=dl } env N→ps.all (fun p=>Nat.blt p N)=true →
   OK dl { tmps:=(ps.zip vs).foldl (fun t (p,v)=>t.setIfInBounds p v) tmps,defers:=dl } (penv ps vs env) N
 |[],_,_,_,_,h,_=>h
 |p::ps,[],_,_,_,h,_=>h
 |p::ps,v::vs,dl,tmps,env,h,hp=>by
   simp only [List.all_cons,Bool.and_eq_true]at hp;exact OK.pset ps vs dl _ ((p,v)::env) (h.put (d:=some p) (by simpa [dOK] using hp.1) v) hp.2
section
variable {P:Program} {dl:List Deferred} {Q:Exit→Act→World→Prop} {N:Nat} {env:List (Nat×Value)} {w:World}
theorem EC.range {g:Operand} {ps:Array Tmp} {assign body:Code} {xs:List (List Value)} {gf:Nat} {caps:List Value} {mem:Nat→Prop}
   (hg:ev env g=some (.func (.func gf) #[] caps.toArray)) (hgf:FnOK P gf) (hp:ps.toList.all (fun p=>Nat.blt p N)=true) (hps:∀ x∈xs,x.length=ps.size)
   (I:Nat→(Nat→Prop)→World→Prop) (Ix:Code→(Nat→Prop)→World→Prop) (stI:∀ k,Stays w.heap.size (I k)) (stX:∀ c,Stays w.heap.size (Ix c)) (bI:∀ k S W,I k S W→∀ b,S b→b<W.heap.size)
   (hseq:∀ W1,Ext w W1→SeqC P gf caps mem xs W1) (S0:Nat→Prop) (hmem:∀ b,mem b→¬ S0 b∧b<w.heap.size) (h0:I 0 S0 w) (E1:Nat→List (Nat×Value))
   (hassign:∀ l k W (hk:k<xs.length),EC P (some l) [] assign (Exit.then (fun a W'=>OK [] a (E1 k) N∧Ext W W') (fun _ _ _=>False)) N (penv ps.toList xs[k] env) W)
   (hbody:∀ l k S W (_:k<xs.length),I k S W→Mod S0 w W→EC P (some l) [] body (RQ I Ix k S W) N (E1 k) W)
   (hdone:∀ D S W,w.heap.size≤D→Mod S0 w W→(∀ b,b<w.heap.size→S b→S0 b)→¬ S D→W.heap[D]?=some (.deferred (some []))→I xs.length S W→AQ (mark D::dl) .normal Q N env W)
   (hstop:∀ D c S W,w.heap.size≤D→Mod S0 w W→(∀ b,b<w.heap.size→S b→S0 b)→¬ S D→W.heap[D]?=some (.deferred (some []))→Ix c S W→EC P none (mark D::dl) c Q N env W) :
   EC P none dl (.rangeFunc g ps assign body) Q N env w:=by
 intro a ha;refine wpIn_rangeFunc ?_;intro fn _;obtain⟨rec,hrec⟩:∃ rec:LoopState→Option Code→Loop,rec=fun st pe=>{ state:=st,pending:=pe,fn,tmps:=a.tmps,params:=ps,assign,body,defers:=w.heap.size }:=⟨_,rfl⟩
 obtain⟨W1,hW1⟩:∃ W1,(w.alloc (.deferred (some []))).alloc (.loop (rec .ready none))=W1:=⟨_,rfl⟩
 have hL1:W1.heap[w.heap.size+1]?=some (.loop (rec .ready none)):=by
   rw [← hW1];have:=World.alloc_heap_new (w.alloc (.deferred (some []))) (.loop (rec .ready none));rwa [World.size_alloc]at this
 have hK1:W1.heap[w.heap.size]?=some (.deferred (some [])):=by
   rw [← hW1];exact(Below.heap_alloc _ _ _ (by simp)).trans (World.alloc_heap_new w _)
 have hE1:Ext w W1:=by
   rw [← hW1];exact(((Below.refl _ w).alloc (Nat.le_refl _) _).alloc (by simp) _)
 have hs1:W1.heap.size=w.heap.size+2:=by rw [← hW1];simp
 have heg:a.eval g=.func (.func gf) #[] caps.toArray:=ha.ev hg
 have hcall:∀ args w,(callFunc gf args).run P w=.ok (.enter gf args) w:=fun args w=>by
   unfold FnOK at hgf
   cases hfn:P.funcs[gf]? with
   |none=>rw [hfn]at hgf;cases hgf
   |some fn =>
     rw [hfn]at hgf;simp only [Bool.and_eq_true,Bool.not_eq_true']at hgf;have h3:fn.body≠none:=by intro e;rw [e]at hgf;exact absurd hgf.2 (by simp)
     have h4:fn.name ≠ "runtime.NumGoroutine" := by simpa using hgf.1
     simp [callFunc,hfn,h3,h4]
 refine⟨w.heap.size+1,[mark w.heap.size],W1,{ target:=.fn (.func gf) caps.toArray,args:=#[.func (.yield (w.heap.size+1)) #[] #[]] },W1,gf,
   #[.func (.yield (w.heap.size+1)) #[] #[]]++caps.toArray,W1,?_,?_,fun _ _=>trivial,?_,fun h=>(by cases h),?_⟩
 ·rw [← hW1,hrec];exact run_enterLoop_outer _ _ _ _ _
 ·simp only [resolve,heg];simp [go_sem]
 ·simp [invoke,hcall]
 have hlt1:∀ {W:World} {b:Nat} {o:Obj},W.heap[b]?=some o→b<W.heap.size:=fun h=>(Array.getElem?_eq_some_iff.1 h).1
 have hb0:∀ b,S0 b→b<w.heap.size:=bI 0 S0 w h0;obtain⟨up,hup⟩:∃ up:(Nat→Prop)→Nat→Prop,up=fun S1 b=>S1 b∨b=w.heap.size∨b=w.heap.size+1:=⟨_,rfl⟩
 have hup1:∀ S b,S b→up S b:=fun S b h=>by rw [hup];exact .inl h
 have hupl:∀ S,up S (w.heap.size+1):=fun S=>by rw [hup];exact .inr (.inr rfl)
 have hupD:∀ S,up S w.heap.size:=fun S=>by rw [hup];exact .inr (.inl rfl)
 have hupc:∀ {S b},up S b→S b∨b=w.heap.size∨b=w.heap.size+1:=fun {S b} h=>by rw [hup]at h;exact h
 obtain⟨J,hJ⟩:∃ J:Nat→(Nat→Prop)→World→Prop,J=fun k S W=>∃ S1,S=up S1∧¬ S1 w.heap.size∧¬ S1 (w.heap.size+1)∧I k S1 W∧Mod S0 w W∧(∀ b,b<w.heap.size→S1 b→S0 b) ∧
     W.heap[w.heap.size+1]?=some (.loop (rec .ready none))∧W.heap[w.heap.size]?=some (.deferred (some [])):=⟨_,rfl⟩
 obtain⟨X,hX⟩:∃ X:(Nat→Prop)→World→Prop,X=fun S W=>∃ S1 c,S=up S1∧¬ S1 w.heap.size∧¬ S1 (w.heap.size+1)∧Ix c S1 W∧Mod S0 w W∧(∀ b,b<w.heap.size→S1 b→S0 b) ∧
     W.heap[w.heap.size+1]?=some (.loop (rec .done (some c)))∧W.heap[w.heap.size]?=some (.deferred (some [])):=⟨_,rfl⟩
 have hold:∀ {W W':World} {S:Nat→Prop} {b:Nat} {o:Obj},Mod (fun b=>W1.heap.size≤b∧¬ S b) W W'→b<W1.heap.size→W.heap[b]?=some o→W'.heap[b]?=some o:=fun {W W' S b o} hm hb ho=>by
   rw [hm.block b (hlt1 ho) (fun h=>by have:=h.1;omega)];exact ho
 have fin:∀ (k:Nat) (S1:Nat→Prop) (W W2 W4:World) (c:Option Code) (S':Nat→Prop),Ext W W2→W.heap[w.heap.size+1]?=some (.loop (rec .ready none))→¬ S1 w.heap.size→¬ S1 (w.heap.size+1)→Mod S0 w W→(∀ b,b<w.heap.size→S1 b→S0 b) →
     W.heap[w.heap.size]?=some (.deferred (some []))→Mod S1 (W2.putObj (w.heap.size+1) (.loop { rec .ready none with state:=.busy })) W4→(∀ b,b<(W2.putObj (w.heap.size+1) (.loop { rec .ready none with state:=.busy })).heap.size→S' b→S1 b) →
     ∃ W5,(Instr.endRound (w.heap.size+1) c).run P W4=.ok (.bool c.isNone) W5∧Mod (up S1) W W5∧(∀ b,b<W.heap.size→up S' b→up S1 b)∧¬ S' w.heap.size∧¬ S' (w.heap.size+1)∧Mod S0 w W5∧(∀ b,b<w.heap.size→S' b→S0 b) ∧
       W5.heap[w.heap.size+1]?=some (.loop (rec (if c.isNone then .ready else .done) c))∧W5.heap[w.heap.size]?=some (.deferred (some []))∧Mod (fun b=>w.heap.size≤b∧¬ S' b) W4 W5:=by
   intro k S1 W W2 W4 c S' hx hl hn0 hn1 hm0 hs0 hk hm hS';have hl2:=(hx.block _ (hlt1 hl)).trans hl;have hk2:=(hx.block _ (hlt1 hk)).trans hk;have e3:(W2.putObj (w.heap.size+1) (.loop { rec .ready none with state:=.busy })).heap.size=W2.heap.size:=by simp
   have hl3:(W2.putObj (w.heap.size+1) (.loop { rec .ready none with state:=.busy })).heap[w.heap.size+1]?=some (.loop { rec .ready none with state:=.busy }):=World.putObj_heap_same (hlt1 hl2)
   have hk3:(W2.putObj (w.heap.size+1) (.loop { rec .ready none with state:=.busy })).heap[w.heap.size]?=some (.deferred (some [])):=(World.putObj_heap_other (by omega)).trans hk2
   have hl4:=(hm.block _ (hlt1 hl3) hn1).trans hl3;have hk4:=(hm.block _ (hlt1 hk3) hn0).trans hk3;have hn0':¬ S' w.heap.size:=fun h=>hn0 (hS' _ (hlt1 hk3) h)
   have hn1':¬ S' (w.heap.size+1):=fun h=>hn1 (hS' _ (hlt1 hl3) h)
   have hsz:=hm0.size;have hxs:=hx.size;refine⟨_,run_endRound c hl4,?_,?_,hn0',hn1',?_,?_,?_,?_,?_⟩
   ·exact(((hx.mod (up S1)).trans (Mod.put W2 _ (hupl S1))).trans (hm.mono fun b _ hb=>hup1 S1 b hb)).trans (Mod.put W4 _ (hupl S1))
   ·intro b hb h;rcases hupc h with h|h|h
    ·exact hup1 S1 b (hS' b (by omega) h)
    ·rw [h];exact hupD S1
    ·rw [h];exact hupl S1
   ·refine(hm0.then (S':=up S1) ((((hx.mod (up S1)).trans (Mod.put W2 _ (hupl S1))).trans (hm.mono fun b _ hb=>hup1 S1 b hb)).trans (Mod.put W4 _ (hupl S1))) fun b hb h=>?_)
    rcases hupc h with h|h|h
    ·exact hs0 b hb h
    ·omega
    ·omega
   ·intro b hb h;exact hs0 b hb (hS' b (by omega) h)
   ·rw [World.putObj_heap_same (hlt1 hl4)];subst hrec;cases c<;>rfl
   ·exact(World.putObj_heap_other (by omega)).trans hk4
   ·exact Mod.put W4 _ ⟨by omega,hn1'⟩
 have hI0:I 0 S0 W1:=stI 0 S0 w W1 h0 (hE1.mod _)
 have hrun:=hseq W1 hE1 (w.heap.size+1) J X
   (fun k S W W' hj hm=>by
     subst hJ;obtain⟨S1,rfl,h1,h2,h3,h4,h5,h6,h7⟩:=hj
     refine⟨S1,rfl,h1,h2,stI k S1 W W' h3 (hm.mono fun b _ hb=>⟨by omega,fun h=>hb.2 (hup1 _ _ h)⟩),h4.then hm (fun b hb h=>by have:=h.1;omega),h5,hold hm (by omega) h6,hold hm (by omega) h7⟩)
   (fun S W W' hj hm=>by
     subst hX;obtain⟨S1,c,rfl,h1,h2,h3,h4,h5,h6,h7⟩:=hj
     refine⟨S1,c,rfl,h1,h2,stX c S1 W W' h3 (hm.mono fun b _ hb=>⟨by omega,fun h=>hb.2 (hup1 _ _ h)⟩),h4.then hm (fun b hb h=>by have:=h.1;omega),h5,hold hm (by omega) h6,hold hm (by omega) h7⟩)
   (fun k S W hj b hb=>by
     subst hJ;obtain⟨S1,rfl,h1,h2,h3,h4,h5,h6,h7⟩:=hj;rcases hupc hb with hb|rfl|rfl
     ·exact bI k S1 W h3 b hb
     ·exact hlt1 h7
     ·exact hlt1 h6)
   (fun k S W hk hj=>by
     rw [hJ]at hj;obtain⟨S1,rfl,h1,h2,h3,h4,h5,h6,h7⟩:=hj;have hy:=run_yield (P:=P) (args:=xs[k].toArray) h6 (by rw [hrec];simpa using hps _ (List.getElem_mem hk))
     rw [hrec]at hy;refine⟨fn,_,assign,body,hy,roundIn_of_wpIn (F:=Fence.wide) trivial ?_⟩
     have hoka:OK [] { tmps:=(ps.zip xs[k].toArray).foldl (fun t (p,v)=>t.setIfInBounds p v) a.tmps,defers:=[] } (penv ps.toList xs[k] env) N:=by
       have:=OK.pset ps.toList xs[k] [] a.tmps env ⟨ha.size,rfl,ha.has⟩ hp
       have e:(ps.zip xs[k].toArray).foldl (fun t (p,v)=>t.setIfInBounds p v) a.tmps=(ps.toList.zip xs[k]).foldl (fun t (p,v)=>t.setIfInBounds p v) a.tmps:=by
         rw [← Array.foldl_toList];simp
       rw [e];exact this
     refine wpIn_mono (hassign (w.heap.size+1) k W hk _ hoka) fun e a2 W2 h=>?_
     cases e with
     |normal =>
       obtain⟨ho,hx⟩:=h;have hl2:=(hx.block _ (hlt1 h6)).trans h6;refine⟨_,run_beginRound hl2 (by rw [hrec]),?_⟩
       have hI3:I k S1 (W2.putObj (w.heap.size+1) (.loop { rec .ready none with state:=.busy })) :=
         stI k S1 _ _ (stI k S1 W W2 h3 (hx.mod _)) (Mod.put W2 _ ⟨by omega,h2⟩)
       have hm3:Mod S0 w (W2.putObj (w.heap.size+1) (.loop { rec .ready none with state:=.busy })) :=
         h4.then (S':=fun b=>w.heap.size≤b) ((hx.mod _).trans (Mod.put W2 _ (by omega))) (fun b hb h=>by omega)
       refine wpIn_mono (hbody (w.heap.size+1) k S1 _ hk hI3 hm3 a2 ho) fun e a4 W4 h=>?_
       cases e with
       |normal =>
         obtain⟨S',hm,hS',hi⟩:=h;obtain⟨W5,hend,g1,g2,g3,g4,g5,g6,g7,g8,g9⟩:=fin k S1 W W2 W4 none S' hx h6 h1 h2 h4 h5 h7 hm hS';exact⟨_,W5,hend,_,rfl,up S',g1,g2,.inl ⟨rfl,by rw [hJ];exact⟨S',rfl,g3,g4,stI _ _ _ _ hi g9,g5,g6,g7,g8⟩⟩⟩
       |ret =>
         obtain⟨S',hm,hS',hi⟩:=h;obtain⟨W5,hend,g1,g2,g3,g4,g5,g6,g7,g8,g9⟩:=fin k S1 W W2 W4 (some .ret) S' hx h6 h1 h2 h4 h5 h7 hm hS';exact⟨_,W5,hend,_,rfl,up S',g1,g2,.inr ⟨rfl,by rw [hX];exact⟨S',.ret,rfl,g3,g4,stX _ _ _ _ hi g9,g5,g6,g7,g8⟩⟩⟩
       |exit id =>
         obtain⟨S',hm,hS',hi⟩:=h;obtain⟨W5,hend,g1,g2,g3,g4,g5,g6,g7,g8,g9⟩:=fin k S1 W W2 W4 (some (.exit id)) S' hx h6 h1 h2 h4 h5 h7 hm hS';exact⟨_,W5,hend,_,rfl,up S',g1,g2,.inr ⟨rfl,by rw [hX];exact⟨S',.exit id,rfl,g3,g4,stX _ _ _ _ hi g9,g5,g6,g7,g8⟩⟩⟩
       |goto t=>exact h.elim
       |panic c=>exact h.elim
       |outgrown=>exact h.elim
     |ret=>exact h.elim
     |exit id=>exact h.elim
     |goto t=>exact h.elim
     |panic c=>exact h.elim
     |outgrown=>exact h.elim)
   (up S0) (fun b hb h=>by
     have:=hmem b hb;rcases hupc h with h|h|h
     ·exact this.1 h
     ·omega
     ·omega)
   (by
     rw [hJ]
     exact⟨S0,rfl,fun h=>by have:=hb0 _ h;omega,fun h=>by have:=hb0 _ h;omega,hI0,hE1.mod _,fun _ _ h=>h,hL1,hK1⟩)
 have hok:OK (mark w.heap.size::dl) { a with defers:=[mark w.heap.size]++a.defers } env N:=⟨ha.size,by rw [ha.defers];rfl,ha.has⟩
 have hca:(#[.func (.yield (w.heap.size+1)) #[] #[]]++caps.toArray:Array Value)=(.func (.yield (w.heap.size+1)) #[] #[]::caps).toArray:=by simp
 rw [hca];refine callsIn_of (ro:=none) (hrun.mono fun e W' h=>?_)
 obtain⟨v,S',rfl,_,_,hh⟩:=h;rcases hh with hh|hh
 ·rw [hJ]at hh;obtain⟨S1,rfl,h1,h2,h3,h4,h5,h6,h7⟩:=hh;refine⟨_,_,run_endLoop h6 (by rw [hrec];exact fun h=>by cases h),?_⟩
  rw [hrec]
  exact hdone w.heap.size S1 _ (Nat.le_refl _) (h4.then (S':=fun b=>w.heap.size≤b) (Mod.put W' _ (by omega)) (fun b hb h=>by omega)) h5 h1 ((World.putObj_heap_other (by omega)).trans h7)
    (stI _ _ _ _ h3 (Mod.put W' _ ⟨by omega,h2⟩)) _ hok
 ·rw [hX]at hh;obtain⟨S1,c,rfl,h1,h2,h3,h4,h5,h6,h7⟩:=hh;refine⟨_,_,run_endLoop h6 (by rw [hrec];exact fun h=>by cases h),?_⟩
  rw [hrec]
  exact hstop w.heap.size c S1 _ (Nat.le_refl _) (h4.then (S':=fun b=>w.heap.size≤b) (Mod.put W' _ (by omega)) (fun b hb h=>by omega)) h5 h1 ((World.putObj_heap_other (by omega)).trans h7)
    (stX _ _ _ _ h3 (Mod.put W' _ ⟨by omega,h2⟩)) _ hok
end
section
variable {P:Program} {N:Nat} {env:List (Nat×Value)} {w:World}
theorem calls_ofM {f:FuncId} {fn:Func} {c:Code} {args:List Value} {R:Ending→World→Prop}
   (hf:P.funcs[f]?=some fn) (hb:fn.body=some c) (hn:fn.ntmps=N) (ha:Nat.ble args.length N=true)
   (h:EC P none [] c (bodyPostM Fence.wide 0 P fn R) N (envOf 0 args) w):Calls P f args.toArray w R:=by
 refine callsIn_wide.1 (callsIn_of_wp_marks (n:=0) hf hb trivial (h _ ⟨?_,rfl,fun t v hl=>?_⟩))
 ·have:args.length≤N:=by simpa using ha
  simp [hn];omega
 ·obtain⟨_,h2⟩:=look_envOf args 0 t v hl
  have ht:t<args.length:=by
    rcases Nat.lt_or_ge t args.length with h'|h'
    ·exact h'
    ·rw [Nat.sub_zero,List.getElem?_eq_none h']at h2;cases h2
  rw [Nat.sub_zero]at h2;rw [Array.getD_eq_getD_getElem?,Array.getElem?_append,if_pos (by simpa using ht)]
  simp [h2]
theorem leaves_marks {fn:Func} {R:Ending→World→Prop} {tmps:Array Value} {v:Value} (hres:∀ w:World,(results fn tmps).run P w=.ok v w):∀ (Ds:List Nat) (w:World),Ds.Nodup→(∀ D∈Ds,w.heap[D]?=some (.deferred (some []))) →
   (∀ w',Mod (fun b=>b∈Ds) w w'→R (.returned v) w')→LeavesInM Fence.wide 0 P fn tmps R (Ds.map mark) .returning w
 |[],w,_,_,h=>⟨v,hres w,h w (Mod.refl _ _)⟩
 |D::Ds,w,hn,hd,h=>by
   rw [List.nodup_cons]at hn;refine⟨by simp,.inl ⟨_,_,rfl,run_takeDeferred (hd D (List.mem_cons_self ..)),leaves_marks hres Ds _ hn.2 (fun E hE=>?_) (fun w' hm=>?_)⟩⟩
   ·rw [World.putObj_heap_other (fun e=>by subst e;exact hn.1 hE)]
    exact hd E (List.mem_cons_of_mem _ hE)
   ·exact h w' ((Mod.put w _ (List.mem_cons_self ..)).trans (hm.mono fun b _ hb=>List.mem_cons_of_mem _ hb))
theorem AQ.outM {fn:Func} {R:Ending→World→Prop} {e:Exit} {v:Value} (he:e=.normal∨e=.ret) (Ds:List Nat) (hres:∀ (dl:List Deferred) a,OK dl a env N→∀ w:World,(results fn a.tmps).run P w=.ok v w) (hn:Ds.Nodup)
   (hd:∀ D∈Ds,w.heap[D]?=some (.deferred (some []))) (h:∀ w',Mod (fun b=>b∈Ds) w w'→R (.returned v) w'):AQ (Ds.map mark) e (bodyPostM Fence.wide 0 P fn R) N env w:=fun a ha=>by
 have:=leaves_marks (P:=P) (R:=R) (hres _ a ha) Ds w hn hd h;rw [← ha.defers]at this;rcases he with rfl|rfl<;>exact this
theorem res1 {fn:Func} {t:Nat} {v:Value} (hr:fn.results = #[.tmp t]) (hl:look env t=some v) (dl:List Deferred) (a:Act) (ha:OK dl a env N) (w:World):(results fn a.tmps).run P w=.ok v w:=by
 rw [results_tmp hr,ha.has t v hl]
end
theorem Stp.yield {P:Program} {env:List (Nat×Value)} {w:World} {d:Option Tmp} {ty:TypeId} {pos:String} {af:Array Edge} {g:Option (Nat×Bool)} {c:Operand} {args:Array Operand} {ts:Array TypeId} {l:Nat} {vs:List Value} {K:Value→World→Prop}
   (hc:ev env c=some (.func (.yield l) #[] #[])) (hv:evs env args.toList=some vs) (h:Yields P l vs w K):Stp P env w ⟨d,.call ⟨.value c,args,ts⟩,ty,pos,af,g⟩ K:=fun a N ha=>by
 have e1:args.map a.eval=vs.toArray:=Array.ext' (by simpa using ha.evs hv)
 obtain⟨f,tmps,assign,body,hy,hr⟩:=h
 have hrun:(execOp a.eval ⟨d,.call ⟨.value c,args,ts⟩,ty,pos,af,g⟩).run P w=.ok (.round l f tmps assign body) w:=by
   simp only [execOp,resolve,e1,ha.ev hc,Deferred.ofValue,invoke,Sem.run_bind,Sem.run_pure,Result.andThen_ok];simpa using hy
 rw [hrun];exact hr
end Go.XK
namespace Go.XK
open Go.RowKit
structure It (S:Nat→Prop) (W0:World) (JJ:(Nat→Prop)→World→Prop) (Si:Nat→Prop) (w:World):Prop where
 hj:JJ Si w
 md:Mod S W0 w
 old:∀ b,b<W0.heap.size→Si b→S b
section
variable {P:Program} {S Si:Nat→Prop} {W0 w w':World} {JJ:(Nat→Prop)→World→Prop}
theorem It.step (h:It S W0 JJ Si w) (st:Stays W0.heap.size JJ) (m:Mod (fun b=>W0.heap.size≤b∧¬ Si b) w w'):It S W0 JJ Si w' :=
 ⟨st _ _ _ h.hj m,h.md.then m (fun x hx hs=>by have:=hs.1;omega),h.old⟩
theorem It.ext (h:It S W0 JJ Si w) (st:Stays W0.heap.size JJ) (e:Ext w w'):It S W0 JJ Si w':=h.step st (e.mod _)
theorem It.start (h:JJ S W0):It S W0 JJ S W0:=⟨h,Mod.refl _ _,fun _ _ h=>h⟩
theorem It.base {w00:World} (h:It S W0 JJ Si w) (hx:Ext w00 W0) (hS:∀ b,b<w00.heap.size→¬ S b):Ext w00 w:=hx.modify h.md fun k hk=>Nat.le_of_not_lt fun hl=>hS k hl hk
theorem Yields.mono {l:Nat} {vs:List Value} {R R':Value→World→Prop} (h:Yields P l vs w R) (hr:∀ v w',R v w'→R' v w'):Yields P l vs w R':=by
 obtain⟨f,tmps,assign,body,h1,h2⟩:=h;exact⟨f,tmps,assign,body,h1,h2.mono fun e w' ⟨v,he,hv⟩=>⟨v,he,hr v w' hv⟩⟩
theorem It.yields {l:Nat} {J:Nat→(Nat→Prop)→World→Prop} {X:(Nat→Prop)→World→Prop} {xs:List (List Value)} {i:Nat} {vs:List Value}
   (hy:∀ k S W (hk:k<xs.length),J k S W→Yields P l xs[k] W (fun v W'=>∃ S',Mod S W W'∧(∀ b,b<W.heap.size→S' b→S b)∧((v=.bool true∧J (k+1) S' W')∨(v=.bool false∧X S' W'))))
   (h:It S W0 (J i) Si w) (hi:i<xs.length) (hv:xs[i]=vs) :
   Yields P l vs w (fun v W'=>∃ S',Mod Si w W'∧(∀ b,b<w.heap.size→S' b→Si b)∧∃ c,v=.bool c∧(c=true→It S W0 (J (i+1)) S' W')∧(c=false→It S W0 X S' W')):=by
 subst hv;refine(hy i Si w hi h.hj).mono fun v W' ⟨S',h1,h2,h3⟩=>⟨S',h1,h2,?_⟩
 have hm:Mod S W0 W':=h.md.then h1 h.old;have ho:∀ b,b<W0.heap.size→S' b→S b:=fun b hb hs=>h.old b hb (h2 b (Nat.lt_of_lt_of_le hb h.md.size) hs)
 rcases h3 with ⟨e,hj⟩|⟨e,hj⟩
 ·exact⟨true,e,(fun _=>⟨hj,hm,ho⟩),(fun h=>by cases h)⟩
 ·exact⟨false,e,(fun h=>by cases h),(fun _=>⟨hj,hm,ho⟩)⟩
theorem Ext.obj {b:Nat} {o:Obj} (he:Ext w w') (h:w.heap[b]?=some o):w'.heap[b]?=some o:=(he.block b (Array.getElem?_eq_some_iff.1 h).1).trans h
theorem It.done {J:Nat→(Nat→Prop)→World→Prop} {X:(Nat→Prop)→World→Prop} {i n:Nat} {v:Value} {e:Ending} (he:e=.returned v) (h:It S W0 (J i) Si w) (hn:i=n) :
   ∃ v S',e=.returned v∧Mod S W0 w∧(∀ b,b<W0.heap.size→S' b→S b)∧(J n S' w∨X S' w):=⟨v,Si,he,h.md,h.old,.inl (hn▸h.hj)⟩
theorem It.stop {J:Nat→(Nat→Prop)→World→Prop} {X:(Nat→Prop)→World→Prop} {n:Nat} {v:Value} {e:Ending} (he:e=.returned v) (h:It S W0 X Si w) :
   ∃ v S',e=.returned v∧Mod S W0 w∧(∀ b,b<W0.heap.size→S' b→S b)∧(J n S' w∨X S' w):=⟨v,Si,he,h.md,h.old,.inr h.hj⟩
end
def HY (P:Program) (l:Nat) (J:Nat→(Nat→Prop)→World→Prop) (X:(Nat→Prop)→World→Prop) (xs:List (List Value)):Prop :=
 ∀ k S W (hk:k<xs.length),J k S W→Yields P l xs[k] W (fun v W'=>∃ S',Mod S W W'∧(∀ b,b<W.heap.size→S' b→S b)∧((v=.bool true∧J (k+1) S' W')∨(v=.bool false∧X S' W')))
theorem SeqC.of {P:Program} {gf:Nat} {caps:List Value} {mem:Nat→Prop} {xs:List (List Value)} {W0:World}
   (h:∀ (l:Nat) (J:Nat→(Nat→Prop)→World→Prop) (X:(Nat→Prop)→World→Prop),(∀ k,Stays W0.heap.size (J k))→Stays W0.heap.size X→(∀ k S W,J k S W→∀ b,S b→b<W.heap.size)→HY P l J X xs →
     ∀ S,(∀ b,mem b→¬ S b)→(∀ b,S b→b<W0.heap.size)→It S W0 (J 0) S W0 →
     Calls P gf (.func (.yield l) #[] #[]::caps).toArray W0 (fun e W'=>∃ v S',e=.returned v∧Mod S W0 W'∧(∀ b,b<W0.heap.size→S' b→S b)∧(J xs.length S' W'∨X S' W'))):SeqC P gf caps mem xs W0 :=
 fun l J X h1 h2 h3 h4 S h5 h6=>h l J X h1 h2 h3 h4 S h5 (h3 0 S W0 h6) (It.start h6)
section
variable {P:Program} {N:Nat} {env:List (Nat×Value)} {w:World}
theorem run_loadVar_flat {t:TypeId} {b:Nat} {v:Value} {T:TypeId} (ht:Flat P t) (hr:Row w b T [v]):(loadVar t ⟨b,0,none⟩).run P w=.ok v w:=by
 have hc:w.cell? ⟨b,0,none⟩=some v:=hr.cell rfl;unfold Flat at ht
 have hagg:(isAgg t).run P w=.ok false w:=by
   cases hu:P.underlying t with
   |none=>rw [hu]at ht;cases ht
   |some D =>
     rw [hu]at ht;cases D<;>first|(cases ht;done)|simp [isAgg,run_underlying hu]
 simp [loadVar,hagg,hc]
theorem leaves_marksC {fn:Func} {R:Ending→World→Prop} {tmps:Array Value} {v:Value}:∀ (Ds:List Nat) (w:World),(∀ w',Mod (fun b=>b∈Ds) w w'→(results fn tmps).run P w'=.ok v w')→Ds.Nodup→(∀ D∈Ds,w.heap[D]?=some (.deferred (some []))) →
   (∀ w',Mod (fun b=>b∈Ds) w w'→R (.returned v) w')→LeavesInM Fence.wide 0 P fn tmps R (Ds.map mark) .returning w
 |[],w,hres,_,_,h=>⟨v,hres w (Mod.refl _ _),h w (Mod.refl _ _)⟩
 |D::Ds,w,hres,hn,hd,h=>by
   rw [List.nodup_cons]at hn;have key:∀ w',Mod (fun b=>b∈Ds) (w.putObj D (.deferred none)) w'→Mod (fun b=>b∈D::Ds) w w':=fun w' hm=>(Mod.put w _ (List.mem_cons_self ..)).trans (hm.mono fun b _ hb=>List.mem_cons_of_mem _ hb)
   refine⟨by simp,.inl ⟨_,_,rfl,run_takeDeferred (hd D (List.mem_cons_self ..)),leaves_marksC Ds _ (fun w' hm=>hres w' (key w' hm)) hn.2 (fun E hE=>?_) (fun w' hm=>h w' (key w' hm))⟩⟩
   rw [World.putObj_heap_other (fun e=>by subst e;exact hn.1 hE)]
   exact hd E (List.mem_cons_of_mem _ hE)
theorem AQ.outC {fn:Func} {R:Ending→World→Prop} {e:Exit} {v:Value} (he:e=.normal∨e=.ret) (Ds:List Nat) (hres:∀ (dl:List Deferred) a,OK dl a env N→∀ w':World,Mod (fun b=>b∈Ds) w w'→(results fn a.tmps).run P w'=.ok v w') (hn:Ds.Nodup)
   (hd:∀ D∈Ds,w.heap[D]?=some (.deferred (some []))) (h:∀ w',Mod (fun b=>b∈Ds) w w'→R (.returned v) w'):AQ (Ds.map mark) e (bodyPostM Fence.wide 0 P fn R) N env w:=fun a ha=>by
 have:=leaves_marksC (P:=P) (R:=R) Ds w (hres _ a ha) hn hd h;rw [← ha.defers]at this;rcases he with rfl|rfl<;>exact this
end
section
variable {dl:List Deferred} {N:Nat} {env:List (Nat×Value)} {W w:World} {I:Nat→(Nat→Prop)→World→Prop} {Ix:Code→(Nat→Prop)→World→Prop} {k:Nat} {S:Nat→Prop}
theorem AQ.rqN (S':Nat→Prop) (h1:Mod S W w) (h2:∀ b,b<W.heap.size→S' b→S b) (h3:I (k+1) S' w):AQ dl .normal (RQ I Ix k S W) N env w:=fun _ _=>⟨S',h1,h2,h3⟩
theorem AQ.rqR (S':Nat→Prop) (h1:Mod S W w) (h2:∀ b,b<W.heap.size→S' b→S b) (h3:Ix .ret S' w):AQ dl .ret (RQ I Ix k S W) N env w:=fun _ _=>⟨S',h1,h2,h3⟩
end
def Seen {α:Type} [DecidableEq α] (m:List (α×Value)) (l:List α):Prop:=∀ x,mget m x=if x∈l then some (.bool true)else none
section
variable {α:Type} [DecidableEq α] {m:List (α×Value)} {l:List α}
theorem Seen.nil:Seen ([]:List (α×Value)) []:=fun x=>by simp [mget_nil]
theorem Seen.put (h:Seen m l) (x:α):Seen (mput m x (.bool true)) (l++[x]):=fun y=>by
 rw [mget_put,h y]
 by_cases hy:y=x
 ·simp [hy]
 ·simp [hy]
theorem Seen.get (h:Seen m l) (x:α):(mget m x).getD (.bool false)=.bool (decide (x∈l)):=by
 rw [h x]
 by_cases hx:x∈l
 ·simp [hx]
 ·simp [hx]
end
structure QInv (B:Nat) (bs:Nat) (e:TypeId) (Si:Nat→Prop) (m:List (Int×Value)) (qv:Value) (seen q:List Int) (w:World):Prop where
 bb:B≤bs
 ns:¬ Si bs
 hm:MRow w bs (Value.int .i64) m
 sn:Seen m seen
 own:OwnQ w B e 1 qv q.length (q.map (Value.int .i64))
 nq:∀ b,qv.ownBlock=some b→¬ Si b∧b≠bs
section
variable {B bs:Nat} {e:TypeId} {Si:Nat→Prop} {m:List (Int×Value)} {qv:Value} {seen q:List Int} {w w':World}
theorem QInv.mod {R:Nat→Prop} (h:QInv B bs e Si m qv seen q w) (hm:Mod R w w') (h1:∀ b,R b→b≠bs∧qv.ownBlock≠some b):QInv B bs e Si m qv seen q w' :=
 ⟨h.bb,h.ns,hm.map h.hm (fun hr=>(h1 _ hr).1 rfl),h.sn,h.own.mod hm (fun k hk hr=>(h1 k hr).2 hk),h.nq⟩
theorem QInv.ext (h:QInv B bs e Si m qv seen q w) (he:Ext w w'):QInv B bs e Si m qv seen q w':=h.mod (he.mod (fun _=>False)) fun _ h=>h.elim
theorem QInv.yield {S':Nat→Prop} (h:QInv B bs e Si m qv seen q w) (hm:Mod Si w w') (hs:∀ b,b<w.heap.size→S' b→Si b):QInv B bs e S' m qv seen q w' :=
 ⟨h.bb,fun hb=>h.ns (hs bs h.hm.lt hb),hm.map h.hm h.ns,h.sn,h.own.mod hm (fun k hk=>(h.nq k hk).1),fun b hb=>⟨fun hs'=>(h.nq b hb).1 (hs b (h.own.lt b hb).2 hs'),(h.nq b hb).2⟩⟩
theorem QInv.put {x:Int} (h:QInv B bs e Si m qv seen q w) (u:Upd bs w w') (hm:MRow w' bs (Value.int .i64) (mput m x (.bool true))):QInv B bs e Si (mput m x (.bool true)) qv (seen++[x]) q w' :=
 ⟨h.bb,h.ns,hm,h.sn.put x,h.own.upd u (fun k hk=>(h.nq k hk).2),h.nq⟩
theorem QInv.app {x:Int} {v':Value} (h:QInv B bs e Si m qv seen q w) (hb:∀ b,Si b→b<w.heap.size) (ho:OwnQ w' B e 1 v' (q.length+1) (q.map (Value.int .i64)++[.int .i64 x])) (hg:w.grownBy w' qv.ownBlock) (hn:∀ k,v'.ownBlock=some k→qv.ownBlock=some k∨w.heap.size≤k) :
   QInv B bs e Si m v' seen (q++[x]) w':=by
 have hm:Mod (fun b=>qv.ownBlock=some b) w w':=Mod.of_grown hg fun k hk=>hk
 refine⟨h.bb,h.ns,hm.map h.hm (fun hk=>(h.nq bs hk).2 rfl),h.sn,by simpa using ho,fun b hb'=>?_⟩
 rcases hn b hb' with h1|h1
 ·exact h.nq b h1
 ·exact⟨fun hs=>by have:=hb b hs;omega,fun e=>by have:=h.hm.lt;omega⟩
end
end Go.XK
namespace Go.XK
open Go.RowKit
section
variable {P:Program} {N:Nat} {env:List (Nat×Value)} {w:World}
def LV (P:Program) (w:World) (rt:TypeId) (b:Nat) (v:Value):Prop:=(loadVar rt ⟨b,0,none⟩).run P w=.ok v w
theorem LV.flat {t T:TypeId} {b:Nat} {v:Value} (ht:Flat P t) (hr:Row w b T [v]):LV P w t b v:=run_loadVar_flat ht hr
theorem LV.agg {t T:TypeId} {b:Nat} {vs:List Value} (hr:Row w b T vs) (ht:Aggr P t vs.length):LV P w t b (.agg vs.toArray):=by
 unfold Aggr at ht
 cases hu:P.underlying t with
 |none=>rw [hu]at ht;cases ht
 |some D =>
   rw [hu]at ht;refine run_loadVar_row w b T t vs.toArray (0,0) D hr hu ?_ ?_
   ·cases D<;>first|rfl|cases ht
   ·cases D<;>first|exact ht|cases ht
theorem AQ.retCT {fn:Func} {R:Ending→World→Prop} {t u b:Nat} {rt:TypeId} {v x:Value} (hr:fn.results = #[.cell t rt,.tmp u]) (hl:look env t=some (.pointer (some ⟨b,0,none⟩))) (hl':look env u=some x) (hv:LV P w rt b v)
   (h:R (.returned (.tuple #[v,x])) w):AQ [] .ret (bodyPost P fn R) N env w:=fun a ha=>by
 have h1:=ha.has t _ hl;have h2:=ha.has u _ hl';rw [Array.getD_eq_getD_getElem?]at h1 h2;unfold LV at hv;exact bodyPost_ret (by simp [results,hr,h1,h2,asAddr,hv]) ha.defers h
theorem resC2 {fn:Func} {t u b1 b2:Nat} {rt1 rt2:TypeId} {v x:Value} (hr:fn.results = #[.cell t rt1,.cell u rt2])
   (hl:look env t=some (.pointer (some ⟨b1,0,none⟩))) (hl':look env u=some (.pointer (some ⟨b2,0,none⟩))) (r1:LV P w rt1 b1 v) (r2:LV P w rt2 b2 x)
   (dl:List Deferred) (a:Act) (ha:OK dl a env N):(results fn a.tmps).run P w=.ok (.tuple #[v,x]) w:=by
 have h1:=ha.has t _ hl;have h2:=ha.has u _ hl';rw [Array.getD_eq_getD_getElem?]at h1 h2;unfold LV at r1 r2;simp [results,hr,h1,h2,asAddr,r1,r2]
end
end Go.XK
namespace Go.LocateLaw
structure Sp where
 at_:Int
 size:Int
structure Mk where
 name:ByteArray
 kind:Int
 at_:Int
 size:Int
structure Ln where
 sec:Int
 at_:Int
 file:ByteArray
 line:Int
structure Il where
 sec:Int
 from_:Int
 to_:Int
 name:ByteArray
 file:ByteArray
 line:Int
 deriving DecidableEq
structure Vr where
 sec:Int
 from_:Int
 to_:Int
 name:ByteArray
 where_:Int
 n:Int
 deriving DecidableEq
def mkZ:Mk:=⟨ByteArray.empty,0,0,0⟩
def lnZ:Ln:=⟨0,0,ByteArray.empty,0⟩
structure Inf where
 marks:List Mk
 lines:List Ln
 ends:List Sp
 inlines:List Il
 vars:List Vr
structure Sot where
 func:ByteArray
 off:Int
 file:ByteArray
 line:Int
 inls:List Il
def spC (x:Sp):List Value:=[.int .i64 x.at_,.int .i64 x.size]
def mkC (x:Mk):List Value:=[.string x.name,.int .i64 x.kind,.int .i64 x.at_,.int .i64 x.size]
def lnC (x:Ln):List Value:=[.int .i64 x.sec,.int .i64 x.at_,.string x.file,.int .i64 x.line]
def ilC (x:Il):List Value:=[.int .i64 x.sec,.int .i64 x.from_,.int .i64 x.to_,.string x.name,.string x.file,.int .i64 x.line]
def vrC (x:Vr):List Value:=[.int .i64 x.sec,.int .i64 x.from_,.int .i64 x.to_,.string x.name,.int .i64 x.where_,.int .i64 x.n]
def idxI {α:Type} (p:α→Bool) (l:List α):Int:=match l.findIdx? p with
 |some i=>i
 |none=>-1
theorem idxI_hit {α:Type} {p:α→Bool} {l:List α} {k:Nat} (h:k<l.length) (hk:p l[k]=true) (hb:∀ j (h:j<l.length),j<k→p l[j]=false):idxI p l=k:=by
 have:l.findIdx? p=some k:=by
   rw [List.findIdx?_eq_some_iff_getElem];exact⟨h,hk,fun j hj=>by rw [hb j (by omega) hj];exact Bool.false_ne_true⟩
 rw [idxI,this]
theorem idxI_miss {α:Type} {p:α→Bool} {l:List α} (hb:∀ j (h:j<l.length),p l[j]=false):idxI p l = -1:=by
 have:l.findIdx? p=none:=by
   rw [List.findIdx?_eq_none_iff];intro x hx;obtain⟨j,hj,rfl⟩:=List.getElem_of_mem hx;exact hb j hj
 rw [idxI,this]
theorem idxI_neg {α:Type} {p:α→Bool} {l:List α} (h:idxI p l<0):l.find? p=none:=by
 unfold idxI at h
 cases hf:l.findIdx? p with
 |none=>simpa [List.findIdx?_eq_none_iff] using hf
 |some i=>rw [hf]at h;simp only at h;omega
theorem find_at {α:Type} {p:α→Bool} {l:List α} {k:Nat} (h:k<l.length) (hk:p l[k]=true) (hb:∀ j (h:j<l.length),j<k→p l[j]=false):l.find? p=some l[k]:=by
 rw [List.find?_eq_some_iff_getElem];exact⟨hk,k,h,rfl,fun j hj=>by rw [hb j (by omega) hj];rfl⟩
theorem idxI_ge {α:Type} {p:α→Bool} {l:List α} (h:¬ idxI p l<0):∃ i,∃ hi:i<l.length,idxI p l=(i:Int)∧l.find? p=some l[i]:=by
 unfold idxI at h
 cases hf:l.findIdx? p with
 |none=>rw [hf]at h;exact absurd (by decide) h
 |some i =>
   obtain⟨h1,h2,h3⟩:=List.findIdx?_eq_some_iff_getElem.1 hf;exact⟨i,h1,by rw [idxI,hf],find_at h1 h2 fun j _ hj=>by simpa using h3 j hj⟩
theorem filt_eq {α:Type} {l:List α} {p:α→Bool} {k:Nat} (h:k<l.length) (hp:p l[k]=true):l.filter p=(l.take k).filter p++l[k]::(l.drop (k+1)).filter p:=by
 conv=>lhs;rw [← List.take_append_drop k l]
 rw [List.filter_append,List.drop_eq_getElem_cons h,List.filter_cons_of_pos hp]
theorem filt_lt {α:Type} {l:List α} {p:α→Bool} {k:Nat} (h:k<l.length) (hp:p l[k]=true):((l.take k).filter p).length<(l.filter p).length:=by
 rw [filt_eq h hp,List.length_append,List.length_cons];omega
theorem filt_get {α:Type} {l:List α} {p:α→Bool} {k:Nat} (h:k<l.length) (hp:p l[k]=true) (hi:((l.take k).filter p).length<(l.filter p).length):(l.filter p)[((l.take k).filter p).length]=l[k]:=by
 have:(l.filter p)[((l.take k).filter p).length]?=some l[k]:=by
   rw [filt_eq h hp];simp
 rw [List.getElem?_eq_getElem hi]at this;exact Option.some.inj this
theorem filt_yes {α:Type} {l:List α} {p:α→Bool} {k:Nat} (h:k<l.length) (hp:p l[k]=true):(l.take (k+1)).filter p=(l.take k).filter p++[l[k]]:=by
 rw [← List.take_append_getElem h,List.filter_append];simp [hp]
theorem filt_no {α:Type} {l:List α} {p:α→Bool} {k:Nat} (h:k<l.length) (hp:p l[k]=false):(l.take (k+1)).filter p=(l.take k).filter p:=by
 rw [← List.take_append_getElem h,List.filter_append];simp [hp]
def lastD {α:Type} (z:α) (l:List α):α:=l.getLast?.getD z
def lastB {α:Type} (l:List α):Bool:=l.getLast?.isSome
theorem lastD_next {α:Type} {z:α} {l:List α} {k:Nat} (h:k<l.length):lastD z (l.take (k+1))=l[k]:=by
 rw [List.take_succ_eq_append_getElem h,lastD,List.getLast?_concat];rfl
theorem lastB_next {α:Type} {l:List α} {k:Nat} (h:k<l.length):lastB (l.take (k+1))=true:=by
 rw [List.take_succ_eq_append_getElem h,lastB,List.getLast?_concat];rfl
def RevI {α:Type} (l m:List α) (i:Nat):Prop:=m.length=l.length∧∀ k,k<l.length→m[k]?=if k<i∨l.length-1-k<i then l[l.length-1-k]? else l[k]?
theorem RevI.start {α:Type} (l:List α):RevI l l 0:=⟨rfl,fun k _=>by rw [if_neg (by omega)]⟩
theorem RevI.step {α:Type} {l m:List α} {i j:Nat} {x y:α} (h:RevI l m i) (hj:j=l.length-1-i) (hij:i<j) (hx:m[j]?=some x) (hy:m[i]?=some y):RevI l ((m.set i x).set j y) (i+1):=by
 obtain⟨h1,h2⟩:=h;refine⟨by simp [h1],fun k hk=>?_⟩
 have ei:=h2 i (by omega)
 have ej:=h2 j (by omega)
 rw [if_neg (by omega)]at ei ej
 rw [List.getElem?_set,List.getElem?_set]
 by_cases e1:j=k
 ·subst e1;rw [if_pos rfl,if_pos (by simp;omega),if_pos (by omega),show l.length-1-j=i by omega,← ei,hy]
 ·rw [if_neg e1]
  by_cases e2:i=k
  ·subst e2;rw [if_pos rfl,if_pos (by omega),if_pos (by omega),← hj,← ej,hx]
  ·rw [if_neg e2,h2 k hk]
   by_cases e3:k<i∨l.length-1-k<i
   ·rw [if_pos e3,if_pos (by omega)]
   ·rw [if_neg e3,if_neg (by omega)]
theorem RevI.done {α:Type} {l m:List α} {i:Nat} (h:RevI l m i) (hi:l.length≤2*i+1):m=l.reverse:=by
 apply List.ext_getElem?;intro k;rcases Nat.lt_or_ge k l.length with hk|hk
 ·rw [h.2 k hk,List.getElem?_reverse hk]
  by_cases e3:k<i∨l.length-1-k<i
  ·rw [if_pos e3]
  ·rw [if_neg e3,show l.length-1-k=k by omega]
 ·rw [List.getElem?_eq_none (by rw [h.1];exact hk),List.getElem?_eq_none (by rw [List.length_reverse];exact hk)]
def spZ (o:Option Sp):Sp:=o.getD ⟨0,0⟩
def inSp (p:Int) (s:Sp):Bool:=decide (s.at_≤p)&&decide (p<IntKind.i64.wrap (s.at_+s.size))
def nodeO (inf:Inf) (p:Int):Option Sp:=inf.ends.find? (inSp p)
def mkP (lo p:Int) (m:Mk):Bool:=decide (m.kind=0)&&(decide (lo≤m.at_)&&decide (m.at_≤p))
def lnP (lo p:Int) (l:Ln):Bool:=decide (lo≤l.at_)&&decide (l.at_≤p)
def ilP (p:Int) (x:Il):Bool:=decide (x.from_≤p)&&decide (p<x.to_)
def markS (inf:Inf) (s:Sp) (p:Int):Option Mk:=(inf.marks.filter (mkP s.at_ p)).getLast?
def lineS (inf:Inf) (s:Sp) (p:Int):Option Ln:=(inf.lines.filter (lnP s.at_ p)).getLast?
def inlS (inf:Inf) (p:Int):List Il:=(inf.inlines.filter (ilP p)).reverse
def sot0:Sot:=⟨ByteArray.empty,0,ByteArray.empty,0,[]⟩
def funcS (om:Option Mk):ByteArray:=match om with
 |some m=>m.name
 |none=>ByteArray.empty
def offS (s:Sp) (p:Int) (om:Option Mk):Int:=match om with
 |some m=>IntKind.i64.wrap (p-m.at_)
 |none=>IntKind.i64.wrap (p-s.at_)
def fileS (ol:Option Ln):ByteArray:=match ol with
 |some l=>l.file
 |none=>ByteArray.empty
def linS (ol:Option Ln):Int:=match ol with
 |some l=>l.line
 |none=>0
def spotOf (inf:Inf) (p:Int) (s:Sp):Sot:=⟨funcS (markS inf s p),offS s p (markS inf s p),fileS (lineS inf s p),linS (lineS inf s p),inlS inf p⟩
def atS (inf:Inf) (p:Int):Sot:=match nodeO inf p with
 |some s=>spotOf inf p s
 |none=>sot0
def atB (inf:Inf) (p:Int):Bool:=(nodeO inf p).isSome
theorem last_some {α:Type} {z:α} {l:List α} (h:lastB l=true):l.getLast? = some (lastD z l):=by
 unfold lastB at h;obtain⟨x,hx⟩:=Option.isSome_iff_exists.1 h;rw [lastD,hx];rfl
theorem last_none {α:Type} {l:List α} (h:lastB l=false):l.getLast? = none:=by
 unfold lastB at h
 cases hl:l.getLast? with
 |none=>rfl
 |some x=>rw [hl]at h;cases h
theorem at_eq {inf:Inf} {p:Int} (h:(nodeO inf p).isSome=true):atS inf p=spotOf inf p (spZ (nodeO inf p)):=by
 obtain⟨s,hs⟩:=Option.isSome_iff_exists.1 h;rw [atS,hs];rfl
theorem at_no {inf:Inf} {p:Int} (h:(nodeO inf p).isSome=false):atS inf p=sot0:=by
 cases hn:nodeO inf p with
 |none=>rw [atS,hn]
 |some s=>rw [hn]at h;cases h
def sotC (s:Sot) (iv:Value):List Value:=[.string s.func,.int .i64 s.off,.string s.file,.int .i64 s.line,iv]
def lnOf (f:ByteArray) (n:Int) (l:Ln):Bool:=decide (l.file=f)&&decide (l.line=n)
def addrS (inf:Inf) (f:ByteArray) (n:Int):List Int:=(inf.lines.filter (lnOf f n)).map (·.at_)
def fnP (s:ByteArray) (m:Mk):Bool:=decide (m.kind=0)&&decide (m.name=s)
def findS (inf:Inf) (s:ByteArray):Option Mk:=inf.marks.find? (fnP s)
def findAt (inf:Inf) (s:ByteArray):Int:=match findS inf s with
 |some m=>m.at_
 |none=>0
def findB (inf:Inf) (s:ByteArray):Bool:=(findS inf s).isSome
end Go.LocateLaw
namespace Go.Proofs.YtobpljbkdffkbaaGreat
open Go.RowKit Go.XK Go.LocateLaw Go.ChangeShapes Go.WideShapes Go.ChangeAt Go.Deep
def LR {α:Type} (K:Nat) (f:α→List Value) (w:World) (v:Value) (l:List α):Prop:=ListR w K v (fun cs x=>cs=f x) l
section
variable {α:Type} {K:Nat} {f:α→List Value} {w w':World} {v:Value} {l:List α}
theorem LR.ext (h:LR K f w v l) (he:Ext w w'):LR K f w' v l:=ListR.mono h he fun _ _ h=>h
theorem LR.isS (h:LR K f w v l):IsS v l.length:=ListR.isS h
theorem LR.isS3 (h:LR K f w v l):∃ a n c,v=.slice a n c:=by
 obtain⟨a,c,h,_⟩:=h.isS;exact⟨a,_,c,h⟩
theorem LR.isE (h:LR K f w v l) (hn:0<l.length):IsE v l.length:=ListR.isE h hn
theorem LR.max (h:LR K f w v l):l.length≤maxLen:=ListR.max h
theorem LR.at (h:LR K f w v l) {i:Nat} (hi:i<l.length):At w (blk v) (ofs v+i*K) (f l[i]):=by
 obtain⟨cs,_,h2,rfl⟩:=ListR.elem h hi;exact h2
theorem LR.one (h:LR K f w v l):v.oneCell'=true:=by
 obtain⟨a,c,rfl,_⟩:=h.isS;rfl
theorem LR.of_map (hf:∀ b,(f b).length=K) (h:Reads w K v l.length (l.map f).flatten):LR K f w v l:=by
 refine⟨l.map f,⟨by rw [List.length_map];exact h,fun c hc=>?_⟩,by simp,fun i h1 h2=>by simp⟩
 obtain⟨x,_,rfl⟩:=List.mem_map.1 hc;exact hf x
theorem LR.reads (h:LR K f w v l):Reads w K v l.length (l.map f).flatten:=by
 obtain⟨css,h1,h2,h3⟩:=h
 have e:css=l.map f:=List.ext_getElem (by simp [h2]) fun i i1 i2=>by
   rw [List.getElem_map];exact h3 i i1 (by simpa using i2)
 have h4:=h1.1;subst e;rw [List.length_map]at h4;exact h4
theorem LR.nil (w:World):LR K f w (.slice none 0 0) []:=⟨[],⟨⟨by simp,.inl ⟨⟨_,rfl⟩,rfl⟩⟩,fun c hc=>by cases hc⟩,rfl,fun i h1=>absurd h1 (Nat.not_lt_zero i)⟩
end
abbrev ptr (b:Nat):Value:=.pointer (some ⟨b,0,none⟩)
def InfC (w:World) (cs:List Value) (inf:Inf):Prop :=
 cs.length=26∧(∃ v,cs[19]?=some v∧LR 4 mkC w v inf.marks)∧(∃ v,cs[20]?=some v∧LR 4 lnC w v inf.lines)∧(∃ v,cs[21]?=some v∧LR 2 spC w v inf.ends)∧(∃ v,cs[22]?=some v∧LR 6 ilC w v inf.inlines)∧(∃ v,cs[23]?=some v∧LR 6 vrC w v inf.vars)∧∀ q∈cs,q.oneCell'=true
theorem InfC.ext {w w':World} {cs:List Value} {inf:Inf} (h:InfC w cs inf) (he:Ext w w'):InfC w' cs inf:=by
 obtain⟨h0,⟨v1,a1,b1⟩,⟨v2,a2,b2⟩,⟨v3,a3,b3⟩,⟨v4,a4,b4⟩,⟨v5,a5,b5⟩,h6⟩:=h;exact⟨h0,⟨v1,a1,b1.ext he⟩,⟨v2,a2,b2.ext he⟩,⟨v3,a3,b3.ext he⟩,⟨v4,a4,b4.ext he⟩,⟨v5,a5,b5.ext he⟩,h6⟩
theorem InfC.len {w:World} {cs:List Value} {inf:Inf} (h:InfC w cs inf):cs.length=26:=h.1
theorem spL (x:Sp):(spC x).length=2:=rfl
theorem mkL (x:Mk):(mkC x).length=4:=rfl
theorem lnL (x:Ln):(lnC x).length=4:=rfl
theorem ilL (x:Il):(ilC x).length=6:=rfl
theorem il1 (x:Il):∀ q∈ilC x,q.oneCell'=true:=by
 intro q hq;simp only [ilC,List.mem_cons,List.mem_nil_iff,or_false]at hq;rcases hq with rfl|rfl|rfl|rfl|rfl|rfl<;>rfl
theorem vrL (x:Vr):(vrC x).length=6:=rfl
section
variable {H:Type} {enc:TypeId×Value→H} {W:World} {base:Nat} {held:Bool}
theorem cells2 {cs:List Value} {a b:Value} (hl:cs.length=2) (h0:cs[0]?=some a) (h1:cs[1]?=some b):cs=[a,b]:=by
 match cs,hl with
 |[z0,z1],_ =>
   simp only [List.getElem?_cons_zero,List.getElem?_cons_succ,Option.some.injEq]at h0 h1;rw [h0,h1]
end
end Go.Proofs.YtobpljbkdffkbaaGreat
namespace Go.XK
open Go.RowKit
section
variable {P:Program} {dl:List Deferred} {Q:Exit→Act→World→Prop} {N:Nat} {env:List (Nat×Value)} {w:World}
theorem EC.rangeA {g:Operand} {ps:Array Tmp} {assign body:Code} {xs:List (List Value)} {gf:Nat} {caps:List Value} {mem:Nat→Prop}
   (hg:ev env g=some (.func (.func gf) #[] caps.toArray)) (hgf:FnOK P gf) (hp:ps.toList.all (fun p=>Nat.blt p N)=true) (hps:∀ x∈xs,x.length=ps.size)
   (I:Nat→(Nat→Prop)→World→Prop) (Ix:Code→(Nat→Prop)→World→Prop) (stI:∀ k,Stays w.heap.size (I k)) (stX:∀ c,Stays w.heap.size (Ix c)) (bI:∀ k S W,I k S W→∀ b,S b→b<W.heap.size)
   (hseq:∀ W1,Ext w W1→SeqC P gf caps mem xs W1) (S0:Nat→Prop) (hmem:∀ b,mem b→¬ S0 b∧b<w.heap.size) (h0:I 0 S0 w) (A:Nat→List (Nat×Value)→World→Prop) (hA:∀ k E W W',A k E W→Mod (fun b=>b=w.heap.size+1) W W'→A k E W')
   (hassign:∀ l k W (hk:k<xs.length),w.heap.size+1<W.heap.size→EC P (some l) [] assign (Exit.then (fun a W'=>∃ E,OK [] a E N∧Ext W W'∧A k E W') (fun _ _ _=>False)) N (penv ps.toList xs[k] env) W)
   (hbody:∀ l k S W E (_:k<xs.length),I k S W→Mod S0 w W→A k E W→EC P (some l) [] body (RQ I Ix k S W) N E W)
   (hdone:∀ D S W,w.heap.size≤D→Mod S0 w W→(∀ b,b<w.heap.size→S b→S0 b)→¬ S D→W.heap[D]?=some (.deferred (some []))→I xs.length S W→AQ (mark D::dl) .normal Q N env W)
   (hstop:∀ D c S W,w.heap.size≤D→Mod S0 w W→(∀ b,b<w.heap.size→S b→S0 b)→¬ S D→W.heap[D]?=some (.deferred (some []))→Ix c S W→EC P none (mark D::dl) c Q N env W) :
   EC P none dl (.rangeFunc g ps assign body) Q N env w:=by
 intro a ha;refine wpIn_rangeFunc ?_;intro fn _;obtain⟨rec,hrec⟩:∃ rec:LoopState→Option Code→Loop,rec=fun st pe=>{ state:=st,pending:=pe,fn,tmps:=a.tmps,params:=ps,assign,body,defers:=w.heap.size }:=⟨_,rfl⟩
 obtain⟨W1,hW1⟩:∃ W1,(w.alloc (.deferred (some []))).alloc (.loop (rec .ready none))=W1:=⟨_,rfl⟩
 have hL1:W1.heap[w.heap.size+1]?=some (.loop (rec .ready none)):=by
   rw [← hW1];have:=World.alloc_heap_new (w.alloc (.deferred (some []))) (.loop (rec .ready none));rwa [World.size_alloc]at this
 have hK1:W1.heap[w.heap.size]?=some (.deferred (some [])):=by
   rw [← hW1];exact(Below.heap_alloc _ _ _ (by simp)).trans (World.alloc_heap_new w _)
 have hE1:Ext w W1:=by
   rw [← hW1];exact(((Below.refl _ w).alloc (Nat.le_refl _) _).alloc (by simp) _)
 have hs1:W1.heap.size=w.heap.size+2:=by rw [← hW1];simp
 have heg:a.eval g=.func (.func gf) #[] caps.toArray:=ha.ev hg
 have hcall:∀ args w,(callFunc gf args).run P w=.ok (.enter gf args) w:=fun args w=>by
   unfold FnOK at hgf
   cases hfn:P.funcs[gf]? with
   |none=>rw [hfn]at hgf;cases hgf
   |some fn =>
     rw [hfn]at hgf;simp only [Bool.and_eq_true,Bool.not_eq_true']at hgf;have h3:fn.body≠none:=by intro e;rw [e]at hgf;exact absurd hgf.2 (by simp)
     have h4:fn.name ≠ "runtime.NumGoroutine" := by simpa using hgf.1
     simp [callFunc,hfn,h3,h4]
 refine⟨w.heap.size+1,[mark w.heap.size],W1,{ target:=.fn (.func gf) caps.toArray,args:=#[.func (.yield (w.heap.size+1)) #[] #[]] },W1,gf,
   #[.func (.yield (w.heap.size+1)) #[] #[]]++caps.toArray,W1,?_,?_,fun _ _=>trivial,?_,fun h=>(by cases h),?_⟩
 ·rw [← hW1,hrec];exact run_enterLoop_outer _ _ _ _ _
 ·simp only [resolve,heg];simp [go_sem]
 ·simp [invoke,hcall]
 have hlt1:∀ {W:World} {b:Nat} {o:Obj},W.heap[b]?=some o→b<W.heap.size:=fun h=>(Array.getElem?_eq_some_iff.1 h).1
 have hb0:∀ b,S0 b→b<w.heap.size:=bI 0 S0 w h0;obtain⟨up,hup⟩:∃ up:(Nat→Prop)→Nat→Prop,up=fun S1 b=>S1 b∨b=w.heap.size∨b=w.heap.size+1:=⟨_,rfl⟩
 have hup1:∀ S b,S b→up S b:=fun S b h=>by rw [hup];exact .inl h
 have hupl:∀ S,up S (w.heap.size+1):=fun S=>by rw [hup];exact .inr (.inr rfl)
 have hupD:∀ S,up S w.heap.size:=fun S=>by rw [hup];exact .inr (.inl rfl)
 have hupc:∀ {S b},up S b→S b∨b=w.heap.size∨b=w.heap.size+1:=fun {S b} h=>by rw [hup]at h;exact h
 obtain⟨J,hJ⟩:∃ J:Nat→(Nat→Prop)→World→Prop,J=fun k S W=>∃ S1,S=up S1∧¬ S1 w.heap.size∧¬ S1 (w.heap.size+1)∧I k S1 W∧Mod S0 w W∧(∀ b,b<w.heap.size→S1 b→S0 b) ∧
     W.heap[w.heap.size+1]?=some (.loop (rec .ready none))∧W.heap[w.heap.size]?=some (.deferred (some [])):=⟨_,rfl⟩
 obtain⟨X,hX⟩:∃ X:(Nat→Prop)→World→Prop,X=fun S W=>∃ S1 c,S=up S1∧¬ S1 w.heap.size∧¬ S1 (w.heap.size+1)∧Ix c S1 W∧Mod S0 w W∧(∀ b,b<w.heap.size→S1 b→S0 b) ∧
     W.heap[w.heap.size+1]?=some (.loop (rec .done (some c)))∧W.heap[w.heap.size]?=some (.deferred (some [])):=⟨_,rfl⟩
 have hold:∀ {W W':World} {S:Nat→Prop} {b:Nat} {o:Obj},Mod (fun b=>W1.heap.size≤b∧¬ S b) W W'→b<W1.heap.size→W.heap[b]?=some o→W'.heap[b]?=some o:=fun {W W' S b o} hm hb ho=>by
   rw [hm.block b (hlt1 ho) (fun h=>by have:=h.1;omega)];exact ho
 have fin:∀ (k:Nat) (S1:Nat→Prop) (W W2 W4:World) (c:Option Code) (S':Nat→Prop),Ext W W2→W.heap[w.heap.size+1]?=some (.loop (rec .ready none))→¬ S1 w.heap.size→¬ S1 (w.heap.size+1)→Mod S0 w W→(∀ b,b<w.heap.size→S1 b→S0 b) →
     W.heap[w.heap.size]?=some (.deferred (some []))→Mod S1 (W2.putObj (w.heap.size+1) (.loop { rec .ready none with state:=.busy })) W4→(∀ b,b<(W2.putObj (w.heap.size+1) (.loop { rec .ready none with state:=.busy })).heap.size→S' b→S1 b) →
     ∃ W5,(Instr.endRound (w.heap.size+1) c).run P W4=.ok (.bool c.isNone) W5∧Mod (up S1) W W5∧(∀ b,b<W.heap.size→up S' b→up S1 b)∧¬ S' w.heap.size∧¬ S' (w.heap.size+1)∧Mod S0 w W5∧(∀ b,b<w.heap.size→S' b→S0 b) ∧
       W5.heap[w.heap.size+1]?=some (.loop (rec (if c.isNone then .ready else .done) c))∧W5.heap[w.heap.size]?=some (.deferred (some []))∧Mod (fun b=>w.heap.size≤b∧¬ S' b) W4 W5:=by
   intro k S1 W W2 W4 c S' hx hl hn0 hn1 hm0 hs0 hk hm hS';have hl2:=(hx.block _ (hlt1 hl)).trans hl;have hk2:=(hx.block _ (hlt1 hk)).trans hk;have e3:(W2.putObj (w.heap.size+1) (.loop { rec .ready none with state:=.busy })).heap.size=W2.heap.size:=by simp
   have hl3:(W2.putObj (w.heap.size+1) (.loop { rec .ready none with state:=.busy })).heap[w.heap.size+1]?=some (.loop { rec .ready none with state:=.busy }):=World.putObj_heap_same (hlt1 hl2)
   have hk3:(W2.putObj (w.heap.size+1) (.loop { rec .ready none with state:=.busy })).heap[w.heap.size]?=some (.deferred (some [])):=(World.putObj_heap_other (by omega)).trans hk2
   have hl4:=(hm.block _ (hlt1 hl3) hn1).trans hl3;have hk4:=(hm.block _ (hlt1 hk3) hn0).trans hk3;have hn0':¬ S' w.heap.size:=fun h=>hn0 (hS' _ (hlt1 hk3) h)
   have hn1':¬ S' (w.heap.size+1):=fun h=>hn1 (hS' _ (hlt1 hl3) h)
   have hsz:=hm0.size;have hxs:=hx.size;refine⟨_,run_endRound c hl4,?_,?_,hn0',hn1',?_,?_,?_,?_,?_⟩
   ·exact(((hx.mod (up S1)).trans (Mod.put W2 _ (hupl S1))).trans (hm.mono fun b _ hb=>hup1 S1 b hb)).trans (Mod.put W4 _ (hupl S1))
   ·intro b hb h;rcases hupc h with h|h|h
    ·exact hup1 S1 b (hS' b (by omega) h)
    ·rw [h];exact hupD S1
    ·rw [h];exact hupl S1
   ·refine(hm0.then (S':=up S1) ((((hx.mod (up S1)).trans (Mod.put W2 _ (hupl S1))).trans (hm.mono fun b _ hb=>hup1 S1 b hb)).trans (Mod.put W4 _ (hupl S1))) fun b hb h=>?_)
    rcases hupc h with h|h|h
    ·exact hs0 b hb h
    ·omega
    ·omega
   ·intro b hb h;exact hs0 b hb (hS' b (by omega) h)
   ·rw [World.putObj_heap_same (hlt1 hl4)];subst hrec;cases c<;>rfl
   ·exact(World.putObj_heap_other (by omega)).trans hk4
   ·exact Mod.put W4 _ ⟨by omega,hn1'⟩
 have hI0:I 0 S0 W1:=stI 0 S0 w W1 h0 (hE1.mod _)
 have hrun:=hseq W1 hE1 (w.heap.size+1) J X
   (fun k S W W' hj hm=>by
     subst hJ;obtain⟨S1,rfl,h1,h2,h3,h4,h5,h6,h7⟩:=hj
     refine⟨S1,rfl,h1,h2,stI k S1 W W' h3 (hm.mono fun b _ hb=>⟨by omega,fun h=>hb.2 (hup1 _ _ h)⟩),h4.then hm (fun b hb h=>by have:=h.1;omega),h5,hold hm (by omega) h6,hold hm (by omega) h7⟩)
   (fun S W W' hj hm=>by
     subst hX;obtain⟨S1,c,rfl,h1,h2,h3,h4,h5,h6,h7⟩:=hj
     refine⟨S1,c,rfl,h1,h2,stX c S1 W W' h3 (hm.mono fun b _ hb=>⟨by omega,fun h=>hb.2 (hup1 _ _ h)⟩),h4.then hm (fun b hb h=>by have:=h.1;omega),h5,hold hm (by omega) h6,hold hm (by omega) h7⟩)
   (fun k S W hj b hb=>by
     subst hJ;obtain⟨S1,rfl,h1,h2,h3,h4,h5,h6,h7⟩:=hj;rcases hupc hb with hb|rfl|rfl
     ·exact bI k S1 W h3 b hb
     ·exact hlt1 h7
     ·exact hlt1 h6)
   (fun k S W hk hj=>by
     rw [hJ]at hj;obtain⟨S1,rfl,h1,h2,h3,h4,h5,h6,h7⟩:=hj;have hy:=run_yield (P:=P) (args:=xs[k].toArray) h6 (by rw [hrec];simpa using hps _ (List.getElem_mem hk))
     rw [hrec]at hy;refine⟨fn,_,assign,body,hy,roundIn_of_wpIn (F:=Fence.wide) trivial ?_⟩
     have hoka:OK [] { tmps:=(ps.zip xs[k].toArray).foldl (fun t (p,v)=>t.setIfInBounds p v) a.tmps,defers:=[] } (penv ps.toList xs[k] env) N:=by
       have:=OK.pset ps.toList xs[k] [] a.tmps env ⟨ha.size,rfl,ha.has⟩ hp
       have e:(ps.zip xs[k].toArray).foldl (fun t (p,v)=>t.setIfInBounds p v) a.tmps=(ps.toList.zip xs[k]).foldl (fun t (p,v)=>t.setIfInBounds p v) a.tmps:=by
         rw [← Array.foldl_toList];simp
       rw [e];exact this
     refine wpIn_mono (hassign (w.heap.size+1) k W hk (hlt1 h6) _ hoka) fun e a2 W2 h=>?_
     cases e with
     |normal =>
       obtain⟨E,ho,hx,hae⟩:=h;have hl2:=(hx.block _ (hlt1 h6)).trans h6;refine⟨_,run_beginRound hl2 (by rw [hrec]),?_⟩
       have hI3:I k S1 (W2.putObj (w.heap.size+1) (.loop { rec .ready none with state:=.busy })) :=
         stI k S1 _ _ (stI k S1 W W2 h3 (hx.mod _)) (Mod.put W2 _ ⟨by omega,h2⟩)
       have hm3:Mod S0 w (W2.putObj (w.heap.size+1) (.loop { rec .ready none with state:=.busy })) :=
         h4.then (S':=fun b=>w.heap.size≤b) ((hx.mod _).trans (Mod.put W2 _ (by omega))) (fun b hb h=>by omega)
       refine wpIn_mono (hbody (w.heap.size+1) k S1 _ E hk hI3 hm3 (hA k E _ _ hae (Mod.put W2 _ rfl)) a2 ho) fun e a4 W4 h=>?_
       cases e with
       |normal =>
         obtain⟨S',hm,hS',hi⟩:=h;obtain⟨W5,hend,g1,g2,g3,g4,g5,g6,g7,g8,g9⟩:=fin k S1 W W2 W4 none S' hx h6 h1 h2 h4 h5 h7 hm hS';exact⟨_,W5,hend,_,rfl,up S',g1,g2,.inl ⟨rfl,by rw [hJ];exact⟨S',rfl,g3,g4,stI _ _ _ _ hi g9,g5,g6,g7,g8⟩⟩⟩
       |ret =>
         obtain⟨S',hm,hS',hi⟩:=h;obtain⟨W5,hend,g1,g2,g3,g4,g5,g6,g7,g8,g9⟩:=fin k S1 W W2 W4 (some .ret) S' hx h6 h1 h2 h4 h5 h7 hm hS';exact⟨_,W5,hend,_,rfl,up S',g1,g2,.inr ⟨rfl,by rw [hX];exact⟨S',.ret,rfl,g3,g4,stX _ _ _ _ hi g9,g5,g6,g7,g8⟩⟩⟩
       |exit id =>
         obtain⟨S',hm,hS',hi⟩:=h;obtain⟨W5,hend,g1,g2,g3,g4,g5,g6,g7,g8,g9⟩:=fin k S1 W W2 W4 (some (.exit id)) S' hx h6 h1 h2 h4 h5 h7 hm hS';exact⟨_,W5,hend,_,rfl,up S',g1,g2,.inr ⟨rfl,by rw [hX];exact⟨S',.exit id,rfl,g3,g4,stX _ _ _ _ hi g9,g5,g6,g7,g8⟩⟩⟩
       |goto t=>exact h.elim
       |panic c=>exact h.elim
       |outgrown=>exact h.elim
     |ret=>exact h.elim
     |exit id=>exact h.elim
     |goto t=>exact h.elim
     |panic c=>exact h.elim
     |outgrown=>exact h.elim)
   (up S0) (fun b hb h=>by
     have:=hmem b hb;rcases hupc h with h|h|h
     ·exact this.1 h
     ·omega
     ·omega)
   (by
     rw [hJ]
     exact⟨S0,rfl,fun h=>by have:=hb0 _ h;omega,fun h=>by have:=hb0 _ h;omega,hI0,hE1.mod _,fun _ _ h=>h,hL1,hK1⟩)
 have hok:OK (mark w.heap.size::dl) { a with defers:=[mark w.heap.size]++a.defers } env N:=⟨ha.size,by rw [ha.defers];rfl,ha.has⟩
 have hca:(#[.func (.yield (w.heap.size+1)) #[] #[]]++caps.toArray:Array Value)=(.func (.yield (w.heap.size+1)) #[] #[]::caps).toArray:=by simp
 rw [hca];refine callsIn_of (ro:=none) (hrun.mono fun e W' h=>?_)
 obtain⟨v,S',rfl,_,_,hh⟩:=h;rcases hh with hh|hh
 ·rw [hJ]at hh;obtain⟨S1,rfl,h1,h2,h3,h4,h5,h6,h7⟩:=hh;refine⟨_,_,run_endLoop h6 (by rw [hrec];exact fun h=>by cases h),?_⟩
  rw [hrec]
  exact hdone w.heap.size S1 _ (Nat.le_refl _) (h4.then (S':=fun b=>w.heap.size≤b) (Mod.put W' _ (by omega)) (fun b hb h=>by omega)) h5 h1 ((World.putObj_heap_other (by omega)).trans h7)
    (stI _ _ _ _ h3 (Mod.put W' _ ⟨by omega,h2⟩)) _ hok
 ·rw [hX]at hh;obtain⟨S1,c,rfl,h1,h2,h3,h4,h5,h6,h7⟩:=hh;refine⟨_,_,run_endLoop h6 (by rw [hrec];exact fun h=>by cases h),?_⟩
  rw [hrec]
  exact hstop w.heap.size c S1 _ (Nat.le_refl _) (h4.then (S':=fun b=>w.heap.size≤b) (Mod.put W' _ (by omega)) (fun b hb h=>by omega)) h5 h1 ((World.putObj_heap_other (by omega)).trans h7)
    (stX _ _ _ _ h3 (Mod.put W' _ ⟨by omega,h2⟩)) _ hok
end
def DR (w:World) (D:Nat):Prop:=w.heap[D]?=some (.deferred (some []))
theorem DR.ext {w w':World} {D:Nat} (h:DR w D) (he:Ext w w'):DR w' D:=Ext.obj he h
theorem DR.upd {w w':World} {D b:Nat} (h:DR w D) (u:Upd b w w') (hn:D≠b):DR w' D:=(u.block D hn).trans h
section
variable {dl:List Deferred} {N:Nat} {env:List (Nat×Value)} {W w:World}
theorem AQ.assignedA {E:List (Nat×Value)} {A:List (Nat×Value)→World→Prop} {Q:Exit→Act→World→Prop} (ts:List Nat) (hs:XK.sub env ts=some E) (h:Ext W w) (ha:A E w):AQ [] .normal (Exit.then (fun a W'=>∃ E,OK [] a E N∧Ext W W'∧A E W') Q) N env w:=fun _ hk=>⟨E,hk.sub ts hs,h,ha⟩
end
end Go.XK
