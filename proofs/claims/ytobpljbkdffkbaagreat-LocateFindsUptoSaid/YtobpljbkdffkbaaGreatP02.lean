/- A part of the proof (texts Ops, Queue, Str, Make, SA). -/
import Derived.Deep.MidRow
import Derived.Great.BuildSlice
import Derived.Laws.OwnMore
import Derived.Lib.SlicesS
import Derived.Test.YtobpljbkdffkbaaGreatP01
set_option linter.all false
set_option maxRecDepth 100000
namespace Go.XK
open Go.RowKit
def Inf (P:Program) (e:TypeId) (z:Value) (size bytes:Nat):Prop:=(P.info? e).map (fun i=>(i.zero,i.size,i.bytes))=some (some z,size,bytes)
theorem Inf.ex {P:Program} {e:TypeId} {z:Value} {size bytes:Nat} (h:Inf P e z size bytes):∃ i,P.info? e=some i∧i.zero=some z∧i.size=size∧i.bytes=bytes:=by
 unfold Inf at h
 cases hi:P.info? e with
 |none=>rw [hi]at h;cases h
 |some i =>
   rw [hi]at h;simp only [Option.map_some,Option.some.injEq,Prod.mk.injEq]at h;exact⟨i,rfl,h.1,h.2.1,h.2.2⟩
def Flat (P:Program) (t:TypeId):Prop:=(match P.underlying t with|some (.struct _)|some (.array _ _)|none=>false|_=>true)=true
def Aggr (P:Program) (t:TypeId) (size:Nat):Prop:=(match P.underlying t with|some (.struct _)|some (.array _ _)=>(P.info? t).map (·.size)|_=>none)=some size
section
variable {P:Program} {env:List (Nat×Value)} {wc:World} {d:Option Tmp} {ty:TypeId} {pos:String} {af:Array Edge} {g:Option (Nat×Bool)}
theorem Sil.move {x:Operand} {v:Value} (h:ev env x=some v):Sil P env ⟨d,.move x,ty,pos,af,g⟩ v:=fun a N ha w=>by
 simp only [execOp,Sem.run_pure,ha.ev h];exact⟨rfl,rfl⟩
theorem Sil.assign {x:Operand} {v:Value} (h:ev env x=some v):Sil P env ⟨d,.assign x,ty,pos,af,g⟩ v:=fun a N ha w=>by
 simp only [execOp,Sem.run_pure,ha.ev h];exact⟨rfl,rfl⟩
theorem Sil.pick {c x y:Operand} {b:Bool} {u v:Value} (hc:ev env c=some (.bool b)) (hx:ev env x=some u) (hy:ev env y=some v):Sil P env ⟨d,.pick c x y,ty,pos,af,g⟩ (bif b then u else v):=fun a N ha w=>by
 cases b<;>simp [execOp,ha.ev hc,ha.ev hx,ha.ev hy,asBool,silUpon]
theorem Sil.pickAnd {c x y:Operand} {p q:Bool} (hc:ev env c=some (.bool p)) (hx:ev env x=some (sel (p==true) (.bool q))) (hy:ev env y=some (.bool false)):Sil P env ⟨d,.pick c x y,ty,pos,af,g⟩ (.bool (p&&q)):=fun a N ha w=>by
 cases p<;>simp [execOp,ha.ev hc,ha.ev hx,ha.ev hy,asBool,silUpon,sel]
theorem Sil.not {t:TypeId} {x:Operand} {b:Bool} (h:ev env x=some (.bool b)):Sil P env ⟨d,.unOp .not t x,ty,pos,af,g⟩ (.bool !b):=fun a N ha w=>by
 simp [execOp,ha.ev h,Op.unary,silUpon]
theorem Sil.extract {x:Operand} {i:Nat} {vs:Array Value} {v:Value} (h:ev env x=some (.tuple vs)) (hi:vs[i]?=some v):Sil P env ⟨d,.extract x i,ty,pos,af,g⟩ v:=fun a N ha w=>by
 simp [execOp,ha.ev h,Instr.extract,hi,silUpon]
theorem Sil.beql {t t':TypeId} {x y:Operand} {p q:Bool} (ht:P.underlying t=some .bool) (hx:ev env x=some (.bool p)) (hy:ev env y=some (.bool q)):Sil P env ⟨d,.binOp .eql t x y t',ty,pos,af,g⟩ (.bool (p==q)):=fun a N ha w=>by
 simp [execOp,ha.ev hx,ha.ev hy,eqGuard_at_bool,run_eql_bool w t p q ht,silUpon]
theorem Sil.bneq {t t':TypeId} {x y:Operand} {p q:Bool} (ht:P.underlying t=some .bool) (hx:ev env x=some (.bool p)) (hy:ev env y=some (.bool q)):Sil P env ⟨d,.binOp .neq t x y t',ty,pos,af,g⟩ (.bool (p != q)):=fun a N ha w=>by
 have:binOp .neq t (.bool p) (.bool q)=(do pure (.bool !(← Op.equal t (.bool p) (.bool q)))):=rfl
 simp [execOp,ha.ev hx,ha.ev hy,eqGuard_at_bool,this,run_equal_bool w t p q ht,silUpon,bne]
section
variable {T T':TypeId} {x y:Operand} {k:IntKind} {m n:Int} (hx:ev env x=some (.int k m)) (hy:ev env y=some (.int k n))
include hx hy
theorem Sil.lss:Sil P env ⟨d,.binOp .lss T x y T',ty,pos,af,g⟩ (.bool (decide (m<n))):=fun a N ha w=>by simp only [execOp,ha.ev hx,ha.ev hy];simp [go_sem,silUpon]
theorem Sil.leq:Sil P env ⟨d,.binOp .leq T x y T',ty,pos,af,g⟩ (.bool (decide (m≤n))):=fun a N ha w=>by simp only [execOp,ha.ev hx,ha.ev hy];simp [go_sem,silUpon]
theorem Sil.gtr:Sil P env ⟨d,.binOp .gtr T x y T',ty,pos,af,g⟩ (.bool (decide (n<m))):=fun a N ha w=>by simp only [execOp,ha.ev hx,ha.ev hy];simp [go_sem,silUpon]
theorem Sil.geq:Sil P env ⟨d,.binOp .geq T x y T',ty,pos,af,g⟩ (.bool (decide (n≤m))):=fun a N ha w=>by simp only [execOp,ha.ev hx,ha.ev hy];simp [go_sem,silUpon]
theorem Sil.eql:Sil P env ⟨d,.binOp .eql T x y T',ty,pos,af,g⟩ (.bool (m==n)):=fun a N ha w=>by simp only [execOp,ha.ev hx,ha.ev hy,eqGuard_at_int];simp [silUpon,binOp,Op.intCmp]
theorem Sil.neq:Sil P env ⟨d,.binOp .neq T x y T',ty,pos,af,g⟩ (.bool (m != n)):=fun a N ha w=>by simp only [execOp,ha.ev hx,ha.ev hy,eqGuard_at_int];simp [silUpon,binOp,Op.intCmp]
theorem Sil.add:Sil P env ⟨d,.binOp .add T x y T',ty,pos,af,g⟩ (.int k (k.wrap (m+n))):=fun a N ha w=>by simp [execOp,ha.ev hx,ha.ev hy,eqGuard_add,binOp,Op.intArith,silUpon]
theorem Sil.sub:Sil P env ⟨d,.binOp .sub T x y T',ty,pos,af,g⟩ (.int k (k.wrap (m-n))):=fun a N ha w=>by simp [execOp,ha.ev hx,ha.ev hy,eqGuard_sub,binOp,Op.intArith,silUpon]
theorem Sil.mul:Sil P env ⟨d,.binOp .mul T x y T',ty,pos,af,g⟩ (.int k (k.wrap (m*n))):=fun a N ha w=>by simp [execOp,ha.ev hx,ha.ev hy,eqGuard_mul,binOp,Op.intArith,silUpon]
theorem Sil.quo (h0:n≠0):Sil P env ⟨d,.binOp .quo T x y T',ty,pos,af,g⟩ (.int k (k.wrap (m.tdiv n))):=fun a N ha w=>by simp [execOp,ha.ev hx,ha.ev hy,eqGuard_quo,binOp,Op.intDiv,silUpon,h0]
theorem Sil.rem (h0:n≠0):Sil P env ⟨d,.binOp .rem T x y T',ty,pos,af,g⟩ (.int k (m.tmod n)):=fun a N ha w=>by simp [execOp,ha.ev hx,ha.ev hy,eqGuard_rem,binOp,Op.intDiv,silUpon,h0]
end
theorem Sil.min {x y:Operand} {ts:Array TypeId} {k:IntKind} {m n:Int} (hx:ev env x=some (.int k m)) (hy:ev env y=some (.int k n)):Sil P env ⟨d,.call ⟨.builtin .min,#[x,y],ts⟩,ty,pos,af,g⟩ (.int k (Min.min m n)):=fun a N ha w=>by
 simp [execOp,resolve,invoke,builtin,ha.ev hx,ha.ev hy,Builtin.min_,Builtin.min2,silUpon];split<;>omega
theorem Sil.max {x y:Operand} {ts:Array TypeId} {k:IntKind} {m n:Int} (hx:ev env x=some (.int k m)) (hy:ev env y=some (.int k n)):Sil P env ⟨d,.call ⟨.builtin .max,#[x,y],ts⟩,ty,pos,af,g⟩ (.int k (Max.max m n)):=fun a N ha w=>by
 simp [execOp,resolve,invoke,builtin,ha.ev hx,ha.ev hy,Builtin.max_,Builtin.max2,silUpon];split<;>omega
theorem Sil.len {x:Operand} {t e:TypeId} {b:Option Addr} {n c:Nat} (ht:P.underlying t=some (.slice e)) (hx:ev env x=some (.slice b n c)):Sil P env ⟨d,.call ⟨.builtin .len,#[x],#[t]⟩,ty,pos,af,g⟩ (.int .i64 n):=fun a N ha w=>by
 simp [execOp,resolve,invoke,builtin,ha.ev hx,Builtin.len_,run_underlying ht,silUpon,goInt]
theorem Sil.fieldAddr {x:Operand} {t:TypeId} {i:Nat} {b o:Nat} {fs:Array Field} {f:Field} {z:Value} {size bytes:Nat} (ht:P.underlying t=some (.struct fs)) (hf:fs[i]?=some f) (hi:Inf P f.type z (size+1) bytes)
   (hx:ev env x=some (.pointer (some ⟨b,o,none⟩))):Sil P env ⟨d,.fieldAddr t x i,ty,pos,af,g⟩ (.pointer (some ⟨b,o+f.offset,none⟩)):=fun a N ha w=>by
 obtain⟨inf,h1,h2,h3,h4⟩:=hi.ex;simp [execOp,ha.ev hx,Instr.fieldAt,run_underlying ht,hf,Instr.sureAddr,fieldPlace,sizeOf,typeInfo,h1,h3,silUpon,Addr.add_mid]
theorem Sil.indexAddr {x y:Operand} {t e:TypeId} {b o n c:Nat} {k:IntKind} {i:Int} {z:Value} {size bytes:Nat} (ht:P.underlying t=some (.slice e)) (hi:Inf P e z size bytes)
   (hx:ev env x=some (.slice (some ⟨b,o,none⟩) n c)) (hy:ev env y=some (.int k i)) (h0:0≤i) (h1:i<n):Sil P env ⟨d,.indexAddr t x y,ty,pos,af,g⟩ (.pointer (some ⟨b,o+i.toNat * size,none⟩)):=fun a N ha w=>by
 obtain⟨inf,h2,h3,h4,h5⟩:=hi.ex;simp [execOp,ha.ev hx,ha.ev hy,Instr.indexAt,asIntOf,run_underlying ht,h0,h1,sizeOf,typeInfo,h2,h4,silUpon,Addr.add_mid]
theorem Sil.makeFunc {fn:Fn} {first captured:Array Operand} {u v:List Value} (h1:evs env first.toList=some u) (h2:evs env captured.toList=some v):Sil P env ⟨d,.makeFunc fn first captured,ty,pos,af,g⟩ (.func fn u.toArray v.toArray):=fun a N ha w=>by
 have e1:first.map a.eval=u.toArray:=Array.ext' (by simpa using ha.evs h1)
 have e2:captured.map a.eval=v.toArray:=Array.ext' (by simpa using ha.evs h2)
 simp only [execOp,Instr.makeFunc,e1,e2,Sem.run_bind,Sem.run_pure,Result.andThen_ok];exact⟨rfl,rfl⟩
theorem Sil.eqlNil {x y:Operand} {t t' e:TypeId} {b:Option Addr} {n c:Nat} (ht:P.underlying t=some (.slice e)) (hx:ev env x=some (.slice b n c)) (hy:ev env y=some (.slice none 0 0)) :
   Sil P env ⟨d,.binOp .eql t x y t',ty,pos,af,g⟩ (.bool b.isNone):=fun a N ha w=>by
 have:=Lib.run_eql_slice_nil w t e b n c 0 0 ht;simp only [execOp,ha.ev hx,ha.ev hy,Sem.run_bind,eqGuard_at_slice,Sem.run_pure,Result.andThen_ok,this];exact⟨rfl,rfl⟩
theorem Sil.build {t:TypeId} {parts:Array (Nat×Operand)} {vs:List (Nat×Value)} {cells:Array Value} (hv:pevs env parts.toList=some vs) (h:P.built t vs=some cells) :
   Sil P env ⟨d,.build t parts,ty,pos,af,g⟩ (.agg cells):=fun a N ha w=>by
 have hh:=run_build w t (parts.map fun(i,x)=>(i,a.eval x)) cells (by rw [Array.toList_map,ha.pevs hv];exact h)
 simp only [execOp,Sem.run_bind,hh,Result.andThen_ok,Sem.run_pure];exact⟨rfl,rfl⟩
theorem wrap_succ {k n:Nat} (h:k<n) (hn:n≤maxLen):IntKind.i64.wrap ((k:Int)+1)=((k+1:Nat):Int):=by
 unfold maxLen at hn;rw [IntWalk.i64_in _ (by omega)]
 omega
def At (w:World) (b o:Nat) (vs:List Value):Prop:=∀ j v,vs[j]?=some v→w.cell? ⟨b,o+j,none⟩=some v
theorem cell_ext {w w':World} (h:Ext w w') {a:Addr} {v:Value} (hc:w.cell? a=some v):w'.cell? a=some v:=by
 rw [Below.cell h (World.block_lt_of_cell? w a hc)];exact hc
theorem At.ext {w w':World} {b o:Nat} {vs:List Value} (h:At w b o vs) (he:Ext w w'):At w' b o vs:=fun j v hj=>cell_ext he (h j v hj)
theorem Exa.load {x:Operand} {t:TypeId} {b o:Nat} {v:Value} (ht:Flat P t) (hx:ev env x=some (.pointer (some ⟨b,o,none⟩))) (hc:wc.cell? ⟨b,o,none⟩=some v):Exa P env wc ⟨d,.load t x,ty,pos,af,g⟩ v:=fun a N ha w hw=>by
 have hc':=cell_ext hw hc;unfold Flat at ht
 have hagg:(isAgg t).run P w=.ok false w:=by
   cases hu:P.underlying t with
   |none=>rw [hu]at ht;cases ht
   |some D =>
     rw [hu]at ht;cases D<;>first|(cases ht;done)|simp [isAgg,run_underlying hu]
 simp [execOp,ha.ev hx,Instr.loadAt,Instr.sureAddr,loadVar,hagg,hc'];exact⟨rfl,Ext.refl _⟩
theorem run_loadCells_at (w:World) (b o:Nat) (vs:List Value) (h:At w b o vs):(loadCells ⟨b,o,none⟩ vs.length).run P w=.ok vs.toArray w:=by
 have key:∀ (n i:Nat) (acc:Array Value),i+n=vs.length→(loadCellsFrom ⟨b,o,none⟩ i n acc).run P w=.ok (acc++(vs.drop i).toArray) w:=by
   intro n
   induction n with
   |zero=>intro i acc hi;simp [loadCellsFrom,List.drop_of_length_le (show vs.length≤i by omega)]
   |succ n ih =>
     intro i acc hi;have hlt:i<vs.length:=by omega
     have hc:=h i _ (List.getElem?_eq_getElem hlt);simp only [loadCellsFrom,Sem.run_bind,Addr.add_mid];rw [show(load ⟨b,o+i,none⟩).run P w=.ok vs[i] w from by simp [load,Sem.run,hc]]
     simp only [Result.andThen_ok];rw [ih (i+1) _ (by omega),List.drop_eq_getElem_cons hlt]
     simp
 have:=key vs.length 0 #[] (by omega)
 simpa [loadCells] using this
theorem Exa.loadAgg {x:Operand} {t:TypeId} {b o:Nat} {vs:List Value} (ht:Aggr P t vs.length) (hx:ev env x=some (.pointer (some ⟨b,o,none⟩))) (hc:At wc b o vs):Exa P env wc ⟨d,.load t x,ty,pos,af,g⟩ (.agg vs.toArray):=fun a N ha w hw=>by
 have hc':=hc.ext hw;have hr:=run_loadCells_at (P:=P) w b o vs hc';unfold Aggr at ht
 have hagg:(isAgg t).run P w=.ok true w∧(sizeOf t).run P w=.ok vs.length w:=by
   cases hu:P.underlying t with
   |none=>rw [hu]at ht;cases ht
   |some D =>
     rw [hu]at ht
     cases hi:P.info? t with
     |none=>rw [hi]at ht;cases D<;>cases ht
     |some i=>rw [hi]at ht;cases D<;>first|(cases ht;done)|(simp at ht;simp [isAgg,run_underlying hu,sizeOf,typeInfo,hi,ht])
 simp [execOp,ha.ev hx,Instr.loadAt,Instr.sureAddr,loadVar,hagg.1,hagg.2,hr];exact⟨rfl,Ext.refl _⟩
def Row (w:World) (b:Nat) (T:TypeId) (vs:List Value):Prop:=w.heap[b]?=some (.cells vs.toArray T (0,0))
theorem Row.lt {w:World} {b:Nat} {T:TypeId} {vs:List Value} (h:Row w b T vs):b<w.heap.size:=(Array.getElem?_eq_some_iff.1 h).1
theorem Row.ext {w w':World} {b:Nat} {T:TypeId} {vs:List Value} (h:Row w b T vs) (he:Ext w w'):Row w' b T vs:=(he.block b h.lt).trans h
theorem Row.cell {w:World} {b:Nat} {T:TypeId} {vs:List Value} (h:Row w b T vs) {j:Nat} {v:Value} (hj:vs[j]?=some v):w.cell? ⟨b,j,none⟩=some v:=by
 unfold Row at h;simp [World.cell?,h,hj]
theorem Row.at {w:World} {b:Nat} {T:TypeId} {vs:List Value} (h:Row w b T vs):At w b 0 vs:=fun j v hj=>by rw [Nat.zero_add];exact h.cell hj
theorem Row.new (w:World) (T:TypeId) (vs:List Value):Row (w.alloc (.cells vs.toArray T)) w.heap.size T vs:=heap_alloc_new w _
theorem Ext.alloc (w:World) (o:Obj):Ext w (w.alloc o):=(Below.refl _ _).alloc (Nat.le_refl _) o
theorem Stp.alloc {w:World} {T:TypeId} {z:Value} {size bytes:Nat} {K:Value→World→Prop} (hi:Inf P T z size bytes) (h:∀ w',Ext w w'→w'.heap.size=w.heap.size+1→Row w' w.heap.size T z.cells.toList→K (.pointer (some ⟨w.heap.size,0,none⟩)) w'):Stp P env w ⟨d,.alloc T,ty,pos,af,g⟩ K:=fun a N ha=>by
 obtain⟨inf,h1,h2,_,_⟩:=hi.ex;have hk:=h (w.alloc (.cells z.cells T)) (Ext.alloc w _) (by simp) (by have:=Row.new w T z.cells.toList;simpa using this)
 simp [execOp,Instr.alloc,zeroValue,typeInfo,h1,h2,newVar,newRow,stUpon];exact hk
theorem Stp.box {w:World} {T:TypeId} {x:Operand} {v:Value} {K:Value→World→Prop} (hx:ev env x=some v) (h:∀ w',Ext w w'→w'.heap.size=w.heap.size+1→Row w' w.heap.size T v.cells.toList→K (.pointer (some ⟨w.heap.size,0,none⟩)) w'):Stp P env w ⟨d,.box T x,ty,pos,af,g⟩ K:=fun a N ha=>by
 have hk:=h (w.alloc (.cells v.cells T)) (Ext.alloc w _) (by simp) (by have:=Row.new w T v.cells.toList;simpa using this)
 simp [execOp,Instr.box,ha.ev hx,newVar,newRow,stUpon];exact hk
structure Upd (b:Nat) (w w':World):Prop where
 os:w'.os=w.os
 tape:w'.tape=w.tape
 output:w'.output=w.output
 size:w'.heap.size=w.heap.size
 block:∀ k,k≠b→w'.heap[k]?=w.heap[k]?
theorem Upd.below {b B:Nat} {w w':World} (h:Upd b w w') (hB:B≤b):Below B w w':=⟨h.os,h.tape,h.output,Nat.le_of_eq h.size.symm,fun k hk=>h.block k (by omega)⟩
theorem Upd.row {b b':Nat} {w w':World} {T:TypeId} {vs:List Value} (h:Upd b w w') (hr:Row w b' T vs) (hne:b'≠b):Row w' b' T vs:=(h.block b' hne).trans hr
theorem Upd.cell {b:Nat} {w w':World} (h:Upd b w w') {a:Addr} (hne:a.block≠b):w'.cell? a=w.cell? a:=World.cell?_of_block (h.block a.block hne)
theorem Upd.at {b b' o:Nat} {w w':World} {vs:List Value} (h:Upd b w w') (hr:At w b' o vs) (hne:b'≠b):At w' b' o vs:=fun j v hj=>by rw [h.cell (by exact hne)];exact hr j v hj
theorem Ext.upd {k:Nat} {a b c:World} (h:Ext a b) (u:Upd k b c) (hk:a.heap.size≤k):Ext a c:=Below.trans h (u.below hk)
theorem Ext.size {a b:World} (h:Ext a b):a.heap.size≤b.heap.size:=Below.size h
theorem setRow_upd (w:World) (b:Nat) (cs:Array Value):Upd b w (w.setRow b cs):=⟨rfl,rfl,rfl,by simp [World.setRow],fun k hk=>setRow_other w b k cs (fun e=>hk e)⟩
theorem Stp.store {w:World} {T T':TypeId} {x y:Operand} {b:Nat} {v:Value} {old:List Value} {K:Value→World→Prop} (hs:(P.info? T).map (·.size)=some v.cells.size) (hx:ev env x=some (.pointer (some ⟨b,0,none⟩))) (hy:ev env y=some v)
   (hr:Row w b T' old) (hl:old.length=v.cells.size) (h1:v.cells.toList.all (·.oneCell')=true) (h:∀ w',Upd b w w'→Row w' b T' v.cells.toList→K undef w'):Stp P env w ⟨d,.store T x y,ty,pos,af,g⟩ K:=fun a N ha=>by
 have hst:=run_storeCells_from (P:=P) b T' v.cells.toList 0 old.toArray w hr (by simp;omega) (fun u hu=>List.all_eq_true.1 h1 u hu)
 cases hi:P.info? T with
 |none=>rw [hi]at hs;cases hs
 |some inf =>
   rw [hi]at hs;simp only [Option.map_some,Option.some.injEq]at hs
   have hrun:(storeVar T ⟨b,0,none⟩ v).run P w=.ok () (w.setRow b v.cells):=by
     simp only [storeVar,Sem.run_bind,sizeOf,typeInfo];simp only [List.take_zero,List.nil_append]at hst;simp [hi,hs,hst]
   simp only [execOp,ha.ev hx,ha.ev hy,Instr.storeAt,Instr.sureAddr,Sem.run_bind,Sem.run_pure,Result.andThen_ok,hrun];exact h _ (setRow_upd w b _) (by have:=setRow_heap w b old.toArray v.cells T' (0,0) hr;unfold Row;simpa using this)
theorem Ext.grownBy {w w':World} (h:Ext w w') (row:Option Nat):w.grownBy w' row:=⟨h.os,h.tape,h.output,h.size,fun k hk _=>h.block k hk⟩
theorem Ext.grown {a b c:World} {row:Option Nat} (h:Ext a b) (hg:b.grownBy c row) (hr:∀ k,row=some k→a.heap.size≤k):Ext a c:=Below.grown h hg h.size hr
theorem Ext.own {w w':World} {base:Nat} {e:TypeId} {size n:Nat} {v:Value} {xs:List Value} (h:w.ownsRow base e size v n xs) (he:Ext w w'):w'.ownsRow base e size v n xs :=
 h.kept (he.grownBy none) (by cases v.ownBlock<;>simp)
theorem Upd.own {b:Nat} {w w':World} {base:Nat} {e:TypeId} {size n:Nat} {v:Value} {xs:List Value} (u:Upd b w w') (h:w.ownsRow base e size v n xs) (hb:b<base):w'.ownsRow base e size v n xs:=by
 refine⟨h.1,?_⟩;rcases h.2 with h2|⟨g,cap,cur,hv,hg,hh,r⟩
 ·exact .inl h2
 ·exact .inr ⟨g,cap,cur,hv,hg,by rw [u.block g (by omega)];exact hh,r⟩
theorem Row.grown {w w':World} {b:Nat} {T:TypeId} {vs:List Value} {row:Option Nat} (h:Row w b T vs) (hg:w.grownBy w' row) (hne:some b≠row):Row w' b T vs:=(hg.block b h.lt hne).trans h
structure Mod (S:Nat→Prop) (w w':World):Prop where
 os:w'.os=w.os
 tape:w'.tape=w.tape
 output:w'.output=w.output
 size:w.heap.size≤w'.heap.size
 block:∀ k,k<w.heap.size→¬ S k→w'.heap[k]?=w.heap[k]?
theorem Ext.mod {w w':World} (h:Ext w w') (S:Nat→Prop):Mod S w w':=⟨h.os,h.tape,h.output,h.size,fun k hk _=>h.block k hk⟩
theorem Upd.mod {b:Nat} {w w':World} (h:Upd b w w') {S:Nat→Prop} (hs:S b):Mod S w w':=⟨h.os,h.tape,h.output,Nat.le_of_eq h.size.symm,fun k _ hn=>h.block k (fun e=>hn (e▸hs))⟩
theorem Mod.of_grown {w w':World} {row:Option Nat} (h:w.grownBy w' row) {S:Nat→Prop} (hs:∀ k,row=some k→S k):Mod S w w':=⟨h.os,h.tape,h.output,h.size,fun k hk hn=>h.block k hk (fun e=>hn (hs k e.symm))⟩
theorem Mod.trans {S:Nat→Prop} {a b c:World} (h:Mod S a b) (k:Mod S b c):Mod S a c :=
 ⟨k.os.trans h.os,k.tape.trans h.tape,k.output.trans h.output,Nat.le_trans h.size k.size,fun i hi hn=>(k.block i (Nat.lt_of_lt_of_le hi h.size) hn).trans (h.block i hi hn)⟩
theorem Mod.mono {S T:Nat→Prop} {a b:World} (h:Mod S a b) (hs:∀ k,k<a.heap.size→S k→T k):Mod T a b:=⟨h.os,h.tape,h.output,h.size,fun k hk hn=>h.block k hk (fun e=>hn (hs k hk e))⟩
theorem Ext.modify {S:Nat→Prop} {a b c:World} (h:Ext a b) (m:Mod S b c) (hs:∀ k,S k→a.heap.size≤k):Ext a c :=
 ⟨m.os.trans h.os,m.tape.trans h.tape,m.output.trans h.output,Nat.le_trans h.size m.size,fun k hk=>(m.block k (Nat.lt_of_lt_of_le hk h.size) (fun e=>by have:=hs k e;omega)).trans (h.block k hk)⟩
theorem Mod.row {S:Nat→Prop} {w w':World} {b:Nat} {T:TypeId} {vs:List Value} (m:Mod S w w') (h:Row w b T vs) (hn:¬ S b):Row w' b T vs:=(m.block b h.lt hn).trans h
theorem Mod.own {S:Nat→Prop} {w w':World} {base:Nat} {e:TypeId} {size n:Nat} {v:Value} {xs:List Value} (m:Mod S w w') (h:w.ownsRow base e size v n xs) (hn:∀ k,v.ownBlock=some k→¬ S k):w'.ownsRow base e size v n xs:=by
 refine⟨h.1,?_⟩;rcases h.2 with h2|⟨g,cap,cur,hv,hg,hh,r⟩
 ·exact .inl h2
 ·exact .inr ⟨g,cap,cur,hv,hg,by rw [m.block g (Array.getElem?_eq_some_iff.1 hh).1 (hn g (by rw [hv];rfl))];exact hh,r⟩
def FnOK (P:Program) (f:FuncId):Prop:=(match P.funcs[f]? with|some fn=>!(fn.name == "runtime.NumGoroutine")&&fn.body.isSome|none=>false)=true
theorem run_call_func {a:Act} {N:Nat} (ha:OKx a env N) {c:Operand} {args:Array Operand} {f:FuncId} {first captured:Array Value} {ts:Array TypeId} {vs:List Value} (hf:FnOK P f)
   (hc:ev env c=some (.func (.func f) first captured)) (hv:evs env args.toList=some vs) (w:World) :
   (execOp a.eval ⟨d,.call ⟨.value c,args,ts⟩,ty,pos,af,g⟩).run P w=.ok (.enter f (first++vs.toArray++captured)) w:=by
 have e1:args.map a.eval=vs.toArray:=Array.ext' (by simpa using ha.evs hv)
 unfold FnOK at hf
 cases hfn:P.funcs[f]? with
 |none=>rw [hfn]at hf;cases hf
 |some fn =>
   rw [hfn]at hf;simp only [Bool.and_eq_true,Bool.not_eq_true']at hf;obtain⟨h1,h2⟩:=hf;have h3:fn.body≠none:=by intro e;rw [e]at h2;cases h2
   have h4:fn.name ≠ "runtime.NumGoroutine" := by simpa using h1
   simp only [execOp,resolve,e1,ha.ev hc,Deferred.ofValue,invoke,callFunc,Sem.run_bind,Sem.run_pure,Result.andThen_ok];simp [hfn,h3,h4]
theorem Exa.call {c:Operand} {args:Array Operand} {f:FuncId} {ts:Array TypeId} {vs:List Value} {v:Value} (hf:FnOK P f) (hc:ev env c=some (.func (.func f) #[] #[])) (hv:evs env args.toList=some vs)
   (h:∀ w,Ext wc w→Calls P f vs.toArray w (fun e w'=>e=.returned v∧Ext w w')):Exa P env wc ⟨d,.call ⟨.value c,args,ts⟩,ty,pos,af,g⟩ v:=fun a N ha w hw=>by
 have hr:=run_call_func (P:=P) (d:=d) (ty:=ty) (pos:=pos) (af:=af) (g:=g) (ts:=ts) ha hf hc hv w;rw [hr];exact⟨rfl,by simpa using h w hw⟩
theorem Stp.call {w:World} {c:Operand} {args:Array Operand} {f:FuncId} {ts:Array TypeId} {vs:List Value} {K:Value→World→Prop} (hf:FnOK P f) (hc:ev env c=some (.func (.func f) #[] #[])) (hv:evs env args.toList=some vs)
   (h:Calls P f vs.toArray w (fun e w'=>∃ v,e=.returned v∧K v w')):Stp P env w ⟨d,.call ⟨.value c,args,ts⟩,ty,pos,af,g⟩ K:=fun a N ha=>by
 have hr:=run_call_func (P:=P) (d:=d) (ty:=ty) (pos:=pos) (af:=af) (g:=g) (ts:=ts) ha hf hc hv w;rw [hr];simpa [stUpon] using h
theorem Exa.callC {c:Operand} {args:Array Operand} {f:FuncId} {ts:Array TypeId} {vs cs:List Value} {v:Value} (hf:FnOK P f) (hc:ev env c=some (.func (.func f) #[] cs.toArray)) (hv:evs env args.toList=some vs)
   (h:∀ w,Ext wc w→Calls P f (vs++cs).toArray w (fun e w'=>e=.returned v∧Ext w w')):Exa P env wc ⟨d,.call ⟨.value c,args,ts⟩,ty,pos,af,g⟩ v:=fun a N ha w hw=>by
 have hr:=run_call_func (P:=P) (d:=d) (ty:=ty) (pos:=pos) (af:=af) (g:=g) (ts:=ts) ha hf hc hv w;rw [hr];exact⟨rfl,by simpa using h w hw⟩
theorem Stp.callC {w:World} {c:Operand} {args:Array Operand} {f:FuncId} {ts:Array TypeId} {vs cs:List Value} {K:Value→World→Prop} (hf:FnOK P f) (hc:ev env c=some (.func (.func f) #[] cs.toArray)) (hv:evs env args.toList=some vs)
   (h:Calls P f (vs++cs).toArray w (fun e w'=>∃ v,e=.returned v∧K v w')):Stp P env w ⟨d,.call ⟨.value c,args,ts⟩,ty,pos,af,g⟩ K:=fun a N ha=>by
 have hr:=run_call_func (P:=P) (d:=d) (ty:=ty) (pos:=pos) (af:=af) (g:=g) (ts:=ts) ha hf hc hv w;rw [hr];simpa [stUpon] using h
def Reads (w:World) (size:Nat) (v:Value) (n:Nat) (cs:List Value):Prop :=
 cs.length=n*size∧(((∃ a,v=.slice a 0 0)∧n=0)∨∃ b o c,v=.slice (some ⟨b,o,none⟩) n c∧n≤c∧c≤maxLen∧At w b o cs)
theorem Reads.ext {w w':World} {size n:Nat} {v:Value} {cs:List Value} (h:Reads w size v n cs) (he:Ext w w'):Reads w' size v n cs :=
 ⟨h.1,h.2.imp id fun⟨b,o,c,h1,h2,hm,h3⟩=>⟨b,o,c,h1,h2,hm,h3.ext he⟩⟩
theorem Reads.of_own {w:World} {base:Nat} {e:TypeId} {size n:Nat} {v:Value} {cs:List Value} (h:w.ownsRow base e size v n cs):Reads w size v n cs:=by
 refine⟨h.1,?_⟩;rcases h.2 with h2|⟨b,c,cur,hv,_,_,hn,hm,_,_⟩
 ·exact .inl ⟨⟨_,h2.1⟩,h2.2⟩
 ·refine .inr ⟨b,0,c,hv,hn,hm,fun j u hj=>?_⟩
  have:=h.cells (g:=b) (by rw [hv];rfl) j u hj
  rwa [Addr.add_mid]at this
theorem Reads.len {w:World} {size n:Nat} {v:Value} {cs:List Value} (h:Reads w size v n cs):∃ b c,v=.slice b n c∧n≤c∧c≤maxLen:=by
 rcases h.2 with ⟨⟨a,hv⟩,hn⟩|⟨b,o,c,hv,hn,hm,_⟩
 ·exact⟨a,0,by rw [hv,hn],by omega,by omega⟩
 ·exact⟨_,c,hv,hn,hm⟩
theorem Reads.has {w:World} {size n:Nat} {v:Value} {cs:List Value} (h:Reads w size v n cs) (hn:0<n):∃ b o c,v=.slice (some ⟨b,o,none⟩) n c∧n≤c∧c≤maxLen∧At w b o cs:=by
 rcases h.2 with ⟨_,h0⟩|h
 ·omega
 ·exact h
theorem Reads.of_row {w:World} {size n b:Nat} {T:TypeId} {vs:List Value} (h:Row w b T vs) (hl:vs.length=n*size) (hn:n≤maxLen):Reads w size (.slice (some ⟨b,0,none⟩) n n) n vs :=
 ⟨hl,.inr ⟨b,0,n,rfl,Nat.le_refl _,hn,h.at⟩⟩
theorem Reads.drop {w:World} {size n c i:Nat} {a:Option Addr} {cs:List Value} (h:Reads w size (.slice a n c) n cs) (hi:i≤n) :
   Reads w size (.slice (if c=i then a else a.map (·.add (i*size))) (n-i) (c-i)) (n-i) (cs.drop (i*size)):=by
 have hlen:(cs.drop (i*size)).length=(n-i)*size:=by rw [List.length_drop,h.1,← Nat.sub_mul]
 refine⟨hlen,?_⟩;rcases h.2 with ⟨⟨a',hv⟩,hn⟩|⟨b,o,c',hv,hnc,hcm,hat⟩
 ·injection hv with e1 e2 e3
  subst e1 e2 e3;have:i=0:=by omega
  subst this;exact .inl ⟨⟨a,by simp⟩,by omega⟩
 ·injection hv with e1 _ e3
  subst e1 e3
  by_cases hc:c=i
  ·subst hc;have hnn:n=c:=by omega
   subst hnn;refine .inr ⟨b,o,0,by simp,by omega,by omega,fun j v hj=>?_⟩
   rw [List.getElem?_eq_none (by rw [hlen];simp)]at hj
   cases hj
  ·refine .inr ⟨b,o+i*size,c-i,by simp [hc,Addr.add_mid],by omega,by omega,fun j v hj=>?_⟩
   rw [List.getElem?_drop]at hj;rw [Nat.add_assoc];exact hat _ _ hj
theorem Reads.take {w:World} {size n c i:Nat} {a:Option Addr} {cs:List Value} (h:Reads w size (.slice a n c) n cs) (hi:i≤n):Reads w size (.slice a i c) i (cs.take (i*size)):=by
 refine⟨by rw [List.length_take,h.1];exact Nat.min_eq_left (Nat.mul_le_mul_right _ hi),?_⟩
 rcases h.2 with ⟨⟨a',hv⟩,hn⟩|⟨b,o,c',hv,hnc,hcm,hat⟩
 ·injection hv with e1 e2 e3
  subst e1 e2 e3;have:i=0:=by omega
  subst this;exact .inl ⟨⟨_,rfl⟩,rfl⟩
 ·injection hv with e1 _ e3
  subst e1 e3;refine .inr ⟨b,o,c,rfl,by omega,hcm,fun j v hj=>?_⟩
  rw [List.getElem?_take]at hj;split at hj
  ·exact hat _ _ hj
  ·cases hj
theorem At.sub {w:World} {b o:Nat} {cs:List Value} (h:At w b o cs) (k:Nat) (vs:List Value) (hv:∀ j v,vs[j]?=some v→cs[k+j]?=some v):At w b (o+k) vs:=fun j v hj=>by
 rw [Nat.add_assoc];exact h _ _ (hv j v hj)
def blk:Value→Nat | .slice (some a) _ _=>a.block|_=>0
def ofs:Value→Nat | .slice (some a) _ _=>a.off|_=>0
def takeV (v:Value) (i:Nat):Value:=match v with | .slice a _ c=>.slice a i c|_=>v
def dropV (size:Nat) (v:Value) (i:Nat):Value:=match v with | .slice a n c=>.slice (if c=i then a else a.map (·.add (i*size))) (n-i) (c-i)|_=>v
def IsS (v:Value) (n:Nat):Prop:=∃ a c,v=.slice a n c∧n≤c
def IsE (v:Value) (n:Nat):Prop:=∃ b o c,v=.slice (some ⟨b,o,none⟩) n c
theorem Reads.isS {w:World} {size n:Nat} {v:Value} {cs:List Value} (h:Reads w size v n cs):IsS v n:=by
 obtain⟨b,c,h1,h2,_⟩:=h.len;exact⟨b,c,h1,h2⟩
theorem Reads.isE {w:World} {size n:Nat} {v:Value} {cs:List Value} (h:Reads w size v n cs) (hn:0<n):IsE v n:=by
 obtain⟨b,o,c,h1,_⟩:=h.has hn;exact⟨b,o,c,h1⟩
theorem Reads.max {w:World} {size n:Nat} {v:Value} {cs:List Value} (h:Reads w size v n cs):n≤maxLen:=by
 obtain⟨b,c,_,h2,h3⟩:=h.len;exact Nat.le_trans h2 h3
theorem Reads.atB {w:World} {size n:Nat} {v:Value} {cs:List Value} (h:Reads w size v n cs) (hn:0<n):At w (blk v) (ofs v) cs:=by
 obtain⟨b,o,c,rfl,_,_,h3⟩:=h.has hn;exact h3
theorem Reads.takeV {w:World} {size n i:Nat} {v:Value} {cs:List Value} (h:Reads w size v n cs) (hi:i≤n):Reads w size (XK.takeV v i) i (cs.take (i*size)):=by
 obtain⟨a,c,rfl,_⟩:=h.len;exact Reads.take h hi
theorem Reads.dropV {w:World} {size n i:Nat} {v:Value} {cs:List Value} (h:Reads w size v n cs) (hi:i≤n):Reads w size (XK.dropV size v i) (n-i) (cs.drop (i*size)):=by
 obtain⟨a,c,rfl,_⟩:=h.len;exact Reads.drop h hi
theorem Sil.lenR {x:Operand} {t e:TypeId} {v:Value} {n:Nat} (ht:P.underlying t=some (.slice e)) (hx:ev env x=some v) (hs:IsS v n):Sil P env ⟨d,.call ⟨.builtin .len,#[x],#[t]⟩,ty,pos,af,g⟩ (.int .i64 n):=by
 obtain⟨a,c,rfl,_⟩:=hs;exact Sil.len ht hx
theorem Sil.indexR {x y:Operand} {t e:TypeId} {n:Nat} {v:Value} {k:IntKind} {i:Int} {z:Value} {size bytes:Nat} (ht:P.underlying t=some (.slice e)) (hi:Inf P e z size bytes)
   (hx:ev env x=some v) (hy:ev env y=some (.int k i)) (hs:IsE v n) (h0:0≤i) (h1:i<n):Sil P env ⟨d,.indexAddr t x y,ty,pos,af,g⟩ (.pointer (some ⟨blk v,ofs v+i.toNat * size,none⟩)):=by
 obtain⟨b,o,c,rfl⟩:=hs;exact Sil.indexAddr ht hi hx hy h0 h1
theorem own_blk {w:World} {base:Nat} {e:TypeId} {size n:Nat} {v:Value} {xs:List Value} (h:w.ownsRow base e size v n xs) (hn:0<n):base≤blk v:=by
 rcases h.2 with ⟨_,h0⟩|⟨g,cap,cur,rfl,hg,_⟩
 ·omega
 ·exact hg
theorem Stp.buildSlice {w:World} {t e:TypeId} {len:Nat} {parts:Array (Nat×Operand)} {vs:List (Nat×Value)} {cells:List Value} {z:Value} {size bytes:Nat} {K:Value→World→Prop} (ht:P.underlying t=some (.slice e)) (hi:Inf P e z size bytes)
   (hs:Nat.ble (len*size) 16777216=true) (hp:Nat.blt 0 (len*size)=true) (hv:pevs env parts.toList=some vs)
   (hf:Instr.fill (fun i=>some (i*size,size)) ((Array.range (len*size)).map (z.cells[· % z.cells.size]!)) vs=some cells.toArray)
   (h:∀ w',Ext w w'→w'.heap.size=w.heap.size+1→Row w' w.heap.size e cells→K (.slice (some ⟨w.heap.size,0,none⟩) len len) w'):Stp P env w ⟨d,.buildSlice t len parts,ty,pos,af,g⟩ K:=fun a N ha=>by
 obtain⟨inf,h2,h3,h4,h5⟩:=hi.ex;subst h4;have hs':len*inf.size≤16777216:=by simpa using hs
 have hp':0<len*inf.size:=by simpa using hp
 have hr:=run_buildSlice (P:=P) w t e len (parts.map fun(i,x)=>(i,a.eval x)) cells.toArray inf z ht h2 h3 (by omega) (by omega) (by rw [Array.toList_map,ha.pevs hv];exact hf)
 simp only [execOp,Sem.run_bind,hr,Result.andThen_ok,Sem.run_pure];exact h _ (Ext.alloc w _) (by simp) (Row.new w e cells)
def pnum:Nat→List Value→List (Nat×Value)
 |_,[]=>[]
 |k,v::r=>(k,v)::pnum (k+1) r
theorem pnum_zip:∀ (vs:List Value) (k:Nat),pnum k vs=(vs.zipIdx k).map fun x=>(x.2,x.1)
 |[],_=>rfl
 |v::r,k=>by simp [pnum,pnum_zip r (k+1)]
def catCells:List Value→List Value
 |[]=>[]
 |v::r=>v.cells.toList++catCells r
theorem catCells_eq (vs:List Value):catCells vs=vs.flatMap fun v=>v.cells.toList:=by
 induction vs with
 |nil=>rfl
 |cons v r ih=>simp [catCells,ih]
theorem Stp.buildAll {w:World} {t e:TypeId} {len:Nat} {parts:Array (Nat×Operand)} (us:List Value) {vs:List (Nat×Value)} {z:Value} {size bytes:Nat} {K:Value→World→Prop} (ht:P.underlying t=some (.slice e)) (hi:Inf P e z size bytes)
   (hs:Nat.ble (len*size) 16777216=true) (hp:Nat.blt 0 (len*size)=true) (hv:pevs env parts.toList=some vs) (hu:vs=pnum 0 us) (hlen:us.length=len) (hc:us.all (fun v=>v.cells.size==size)=true)
   (h:∀ w',Ext w w'→w'.heap.size=w.heap.size+1→Row w' w.heap.size e (catCells us)→K (.slice (some ⟨w.heap.size,0,none⟩) len len) w'):Stp P env w ⟨d,.buildSlice t len parts,ty,pos,af,g⟩ K:=by
 refine Stp.buildSlice ht hi hs hp hv ?_ h;have hp':0<len*size:=by simpa using hp
 have hsz:0<size:=Nat.pos_of_ne_zero (fun e=>by subst e;simp at hp')
 have hc':∀ v∈us,v.cells.size=size:=fun v hv=>by simpa using List.all_eq_true.1 hc v hv
 rw [hu,pnum_zip,Great.fill_whole hsz us _ hc' (by simp [hlen]),catCells_eq]
theorem Stp.buildNil {w:World} {t e:TypeId} {z:Value} {size bytes:Nat} {K:Value→World→Prop} (ht:P.underlying t=some (.slice e)) (hi:Inf P e z size bytes)
   (h:∀ w',Ext w w'→w'.heap.size=w.heap.size+1→Row w' w.heap.size e []→K (.slice (some ⟨w.heap.size,0,none⟩) 0 0) w'):Stp P env w ⟨d,.buildSlice t 0 #[],ty,pos,af,g⟩ K:=fun a N ha=>by
 obtain⟨inf,h2,h3,h4,h5⟩:=hi.ex;have hk:=h (w.alloc (.cells #[] e)) (Ext.alloc w _) (by simp) (Row.new w e [])
 simp [execOp,Instr.buildSlice,run_underlying ht,sizeOf,typeInfo,h2,Instr.fill,newRow,stUpon];have e0:Array.map (fun _=>(default:Value)) (Array.range 0) = #[]:=Array.eq_empty_of_size_eq_zero (by simp)
 rw [e0];exact hk
theorem run_append_nothing {w:World} {base size n:Nat} {t ty e:TypeId} {i:TypeInfo} {v:Value} {xs:List Value} (ht:P.underlying t=some (.slice e)) (hi:P.info? e=some i) (hown:w.ownsRow base e size v n xs) (a:Option Addr) :
   (Builtin.append_ #[t,t] ty #[v,.slice a 0 0]).run P w=.ok v w:=by
 rcases hown.2 with ⟨rfl,rfl⟩|⟨g,cap,cur,rfl,_,_,hnc,_⟩
 ·cases a<;>simp [Builtin.append_,run_underlying ht,sizeOf,typeInfo,hi,Builtin.lenOf,Builtin.firstCells,loadCells,loadCellsFrom]
 ·cases a<;>simp [Builtin.append_,run_underlying ht,sizeOf,typeInfo,hi,Builtin.lenOf,Builtin.firstCells,hnc,loadCells,loadCellsFrom,storeCells]
theorem Stp.append {w:World} {s x:Operand} {t e:TypeId} {z:Value} {size bytes base n m:Nat} {v u:Value} {xs news:List Value} {K:Value→World→Prop} (ht:P.underlying t=some (.slice e)) (hi:Inf P e z size bytes)
   (hz:z.cells.size=size) (hsz:0<size) (hs:ev env s=some v) (hx:ev env x=some u) (hown:w.ownsRow base e size v n xs) (hbase:base≤w.heap.size) (hr:Reads w size u m news) (h1:∀ q∈news,q.oneCell'=true)
   (hb:(n+m)*bytes≤140737488355328) (hb0:n+m≤maxLen)
   (h:∀ v' w',w'.ownsRow base e size v' (n+m) (xs++news)→w.grownBy w' v.ownBlock→(v'=.slice none 0 0↔v=.slice none 0 0∧m=0)→K v' w'):Stp P env w ⟨d,.call ⟨.builtin .append,#[s,x],#[t,t]⟩,ty,pos,af,g⟩ K:=fun a N ha=>by
 obtain⟨inf,h2,h3,h4,h5⟩:=hi.ex
 have hrun:∃ v' w',(Builtin.append_ #[t,t] ty #[v,u]).run P w=.ok v' w'∧w'.ownsRow base e size v' (n+m) (xs++news)∧w.grownBy w' v.ownBlock∧(v'=.slice none 0 0↔v=.slice none 0 0∧m=0):=by
   rcases hr.2 with ⟨⟨a',hu⟩,hm⟩|⟨b,o,c,hu,hmc,_,hat⟩
   ·subst hu hm;have hn:news=[]:=List.eq_nil_of_length_eq_zero (by simpa using hr.1)
    subst hn;exact⟨v,w,run_append_nothing (P:=P) (w:=w) (base:=base) ht h2 hown a',by simpa using hown,⟨rfl,rfl,rfl,Nat.le_refl _,fun _ _ _=>rfl⟩,by simp⟩
   ·subst hu;exact run_append_own (P:=P) w base t ty e inf z size bytes ht h2 h3 h4 h5 hz hsz v n xs hown ⟨b,o,none⟩ m c news hr.1 (fun j q hj=>by rw [Addr.add_mid];exact hat j q hj) h1 hb0 hb hbase
 obtain⟨v',w',hq,h6,h7,h8⟩:=hrun;simp only [execOp,resolve,invoke,builtin,Sem.run_bind,Sem.run_pure,Result.andThen_ok,List.map_toArray,List.map_cons,List.map_nil,ha.ev hs,ha.ev hx,hq];exact h v' w' h6 h7 h8
end
end Go.XK
namespace Go.XK
open Go.RowKit
structure CellsAt (w:World) (g:Nat) (cur:Array Value) (e:TypeId):Prop where
 ex:∃ fr:Nat×Nat,w.heap[g]?=some (.cells cur e fr)∧(fr=(0,0)∨cur.size≤fr.1)
theorem CellsAt.plain {w:World} {g:Nat} {cur:Array Value} {e:TypeId} (h:w.heap[g]?=some (.cells cur e (0,0))):CellsAt w g cur e:=⟨⟨_,h,.inl rfl⟩⟩
theorem CellsAt.lt {w:World} {g:Nat} {cur:Array Value} {e:TypeId} (h:CellsAt w g cur e):g<w.heap.size:=by
 obtain⟨fr,h1,_⟩:=h.ex;exact(Array.getElem?_eq_some_iff.1 h1).1
theorem CellsAt.cell {w:World} {g j:Nat} {cur:Array Value} {e:TypeId} {v:Value} (h:CellsAt w g cur e) (hj:cur[j]?=some v):w.cell? ⟨g,j,none⟩=some v:=by
 obtain⟨fr,h1,_⟩:=h.ex;simp [World.cell?,h1,hj]
theorem CellsAt.same {w w':World} {g:Nat} {cur:Array Value} {e:TypeId} (h:CellsAt w g cur e) (hs:w'.heap[g]?=w.heap[g]?):CellsAt w' g cur e:=by
 obtain⟨fr,h1,h2⟩:=h.ex;exact⟨⟨fr,hs.trans h1,h2⟩⟩
theorem CellsAt.setRow {w:World} {g:Nat} {cur cs:Array Value} {e:TypeId} (h:CellsAt w g cur e) (hs:cs.size=cur.size):CellsAt (w.setRow g cs) g cs e:=by
 obtain⟨fr,h1,h2⟩:=h.ex;exact⟨⟨fr,setRow_heap w g cur cs e fr h1,by rw [hs];exact h2⟩⟩
theorem run_storeCells_atG (P:Program) (g o:Nat) (t:TypeId):∀ (vs:List Value) (i:Nat) (cur:Array Value) (w:World),CellsAt w g cur t→o+i+vs.length≤cur.size→(∀ v∈vs,v.oneCell'=true) →
   (storeCells ⟨g,o,none⟩ vs i).run P w=.ok () (w.setRow g (cur.toList.take (o+i)++vs++cur.toList.drop (o+i+vs.length)).toArray)
 |[],i,cur,w,hg,_,_=>by
   obtain⟨fr,h1,_⟩:=hg.ex;simp only [storeCells,List.append_nil,List.length_nil,Nat.add_zero,List.take_append_drop,Array.toArray_toList];rw [setRow_self w g cur t fr h1];rfl
 |v::rest,i,cur,w,hg,hl,h1=>by
   obtain⟨fr,hh,hfr⟩:=hg.ex;have hi:o+i<cur.size:=by simp at hl;omega
   have hadd:(⟨g,o,none⟩:Addr).add i=⟨g,o+i,none⟩:=by rw [Addr.add_mid]
   have hfro:w.frozen? ⟨g,o+i,none⟩=false:=by
     obtain⟨a,b⟩:=fr;simp only [World.frozen?,hh];rcases hfr with hfr|hfr
     ·cases hfr;simp
     ·simp only at hfr;simp;omega
   have hst:(store ((⟨g,o,none⟩:Addr).add i) v).run P w=.ok () (w.setRow g (cur.setIfInBounds (o+i) v)):=by
     rw [hadd,run_store P w _ v _ (h1 v (by simp)),hg.cell (Array.getElem?_eq_getElem hi)]
     simp [hfro,setCell_eq_setRow w g (o+i) cur t fr v hh]
   have ih:=run_storeCells_atG P g o t rest (i+1) (cur.setIfInBounds (o+i) v) (w.setRow g (cur.setIfInBounds (o+i) v)) (hg.setRow (by simp)) (by simp at hl ⊢;omega) (fun x hx=>h1 x (by simp [hx]))
   simp only [storeCells,Sem.run_bind,hst,Result.andThen_ok,ih,setRow_setRow]
   congr 3
   have e:=list_seg_step cur.toList (o+i) v rest (by simp at hl ⊢;omega)
   simpa [Array.toList_setIfInBounds,Nat.add_assoc] using e
def OwnQ (w:World) (base:Nat) (e:TypeId) (size:Nat) (v:Value) (n:Nat) (xs:List Value):Prop :=
 xs.length=n*size∧((v=.slice none 0 0∧n=0) ∨
  ∃ g o cap cur,v=.slice (some ⟨g,o,none⟩) n cap∧base≤g∧CellsAt w g cur e∧n≤cap∧cap≤maxLen∧o+cap*size≤cur.size∧(cur.toList.drop o).take (n*size)=xs)
section
variable {w w':World} {base:Nat} {e:TypeId} {size n:Nat} {v:Value} {xs:List Value}
theorem OwnQ.of_own (h:w.ownsRow base e size v n xs):OwnQ w base e size v n xs:=by
 refine⟨h.1,?_⟩;rcases h.2 with h2|⟨g,cap,cur,hv,hg,hh,hn,hm,hs,ht⟩
 ·exact .inl h2
 ·exact .inr ⟨g,0,cap,cur,hv,hg,.plain hh,hn,hm,by omega,by rw [List.drop_zero];exact ht⟩
theorem OwnQ.lt (h:OwnQ w base e size v n xs):∀ k,v.ownBlock=some k→base≤k∧k<w.heap.size:=by
 intro k hk;rcases h.2 with ⟨rfl,_⟩|⟨g,o,cap,cur,rfl,hb,hg,_⟩
 ·simp [Value.ownBlock]at hk
 ·simp [Value.ownBlock]at hk;subst hk;exact⟨hb,hg.lt⟩
theorem OwnQ.reads (h:OwnQ w base e size v n xs):Reads w size v n xs:=by
 refine⟨h.1,?_⟩;rcases h.2 with h2|⟨b,o,c,cur,hv,_,hh,hn,hm,hs,ht⟩
 ·exact .inl ⟨⟨_,h2.1⟩,h2.2⟩
 ·refine .inr ⟨b,o,c,hv,hn,hm,fun j u hj=>?_⟩
  have hjl:=(List.getElem?_eq_some_iff.1 hj).1;rw [← ht,List.getElem?_take]at hj;split at hj
  ·rw [List.getElem?_drop,Array.getElem?_toList]at hj;exact hh.cell hj
  ·cases hj
theorem OwnQ.mod {S:Nat→Prop} (m:Mod S w w') (h:OwnQ w base e size v n xs) (hn:∀ k,v.ownBlock=some k→¬ S k):OwnQ w' base e size v n xs:=by
 refine⟨h.1,?_⟩;rcases h.2 with h2|⟨g,o,cap,cur,hv,hg,hh,r⟩
 ·exact .inl h2
 ·exact .inr ⟨g,o,cap,cur,hv,hg,hh.same (m.block g hh.lt (hn g (by rw [hv];rfl))),r⟩
theorem OwnQ.ext (h:OwnQ w base e size v n xs) (he:Ext w w'):OwnQ w' base e size v n xs:=h.mod (he.mod (fun _=>False)) fun _ _ h=>h
theorem OwnQ.upd {b:Nat} (u:Upd b w w') (h:OwnQ w base e size v n xs) (hn:∀ k,v.ownBlock=some k→k≠b):OwnQ w' base e size v n xs:=h.mod (u.mod (S:=fun k=>k=b) rfl) fun k hk e=>hn k hk e
theorem OwnQ.drop (h:OwnQ w base e size v n xs) {i:Nat} (hi:i≤n):OwnQ w base e size (dropV size v i) (n-i) (xs.drop (i*size)):=by
 refine⟨by rw [List.length_drop,h.1,← Nat.sub_mul],?_⟩
 rcases h.2 with ⟨rfl,hn⟩|⟨g,o,cap,cur,rfl,hg,hh,hn,hm,hs,ht⟩
 ·left;have:i=0:=by omega
  subst this;simp only [dropV];exact⟨by simp,by omega⟩
 ·right;simp only [dropV]
  by_cases hc:cap=i
  ·subst hc;refine⟨g,o,0,cur,by simp,hg,hh,by omega,by omega,by omega,?_⟩
   rw [show n-cap=0 by omega,Nat.zero_mul,List.take_zero,List.drop_of_length_le (by rw [h.1];exact Nat.mul_le_mul_right _ (by omega))]
  ·refine⟨g,o+i*size,cap-i,cur,by simp [hc,Addr.add_mid],hg,hh,by omega,by omega,?_,?_⟩
   ·rw [Nat.sub_mul];have:i*size≤cap*size:=Nat.mul_le_mul_right _ (by omega)
    omega
   ·rw [← ht,← List.drop_drop,List.drop_take,← Nat.sub_mul]
end
section
variable {P:Program} {env:List (Nat×Value)} {d:Option Tmp} {ty:TypeId} {pos:String} {af:Array Edge} {g:Option (Nat×Bool)}
theorem run_append_roomQ {w:World} {t ty e:TypeId} {i:TypeInfo} (ht:P.underlying t=some (.slice e)) (hi:P.info? e=some i)
   {g o sLen sCap:Nat} {cur:Array Value} (hg:CellsAt w g cur e)
   {a:Addr} {m c:Nat} {news:List Value} (hl:news.length=m*i.size) (hnews:∀ j u,news[j]?=some u→w.cell? (a.add j)=some u) (h1:∀ u∈news,u.oneCell'=true)
   (hroom:sLen+m≤sCap) (hfit:o+sLen*i.size+news.length≤cur.size) :
   (Builtin.append_ #[t,t] ty #[.slice (some ⟨g,o,none⟩) sLen sCap,.slice (some a) m c]).run P w =
     .ok (.slice (some ⟨g,o,none⟩) (sLen+m) sCap) (w.setRow g (cur.toList.take (o+sLen*i.size)++news++cur.toList.drop (o+sLen*i.size+news.length)).toArray):=by
 have hf:=run_firstCells_some (P:=P) w i.size m a m c news hl hnews;have hst:=run_storeCells_atG P g (o+sLen*i.size) e news 0 cur w hg (by simpa using hfit) h1
 simp only [Nat.add_zero]at hst;simp [Builtin.append_,run_underlying ht,sizeOf,typeInfo,hi,Builtin.lenOf,hroom,hf,Addr.add_mid,hst]
theorem Stp.appendQ {w:World} {s x:Operand} {t e:TypeId} {z:Value} {size bytes base n m:Nat} {v u:Value} {xs news:List Value} {K:Value→World→Prop} (ht:P.underlying t=some (.slice e)) (hi:Inf P e z size bytes)
   (hz:z.cells.size=size) (hs:ev env s=some v) (hx:ev env x=some u) (hown:OwnQ w base e size v n xs) (hbase:base≤w.heap.size) (hr:Reads w size u m news) (h1:∀ q∈news,q.oneCell'=true)
   (hb:(n+m)*bytes≤140737488355328) (hb0:n+m≤maxLen)
   (h:∀ v' w',OwnQ w' base e size v' (n+m) (xs++news)→w.grownBy w' v.ownBlock→(∀ k,v'.ownBlock=some k→v.ownBlock=some k∨w.heap.size≤k)→K v' w'):Stp P env w ⟨d,.call ⟨.builtin .append,#[s,x],#[t,t]⟩,ty,pos,af,g⟩ K:=fun a N ha=>by
 obtain⟨inf,h2,h3,h4,h5⟩:=hi.ex
 by_cases hm0:m=0
 ·subst hm0;have hn0:news=[]:=List.eq_nil_of_length_eq_zero (by simpa using hr.1)
  subst hn0
  have hq:(Builtin.append_ #[t,t] ty #[v,u]).run P w=.ok v w:=by
    rcases hr.2 with ⟨⟨a',rfl⟩,_⟩|⟨b',o',c',rfl,_,_,_⟩
    ·rcases hown.2 with ⟨rfl,rfl⟩|⟨g0,o,cap,cur,rfl,hbg,hg,hnc,hcm,hcs,htake⟩
     ·cases a'<;>simp [Builtin.append_,run_underlying ht,sizeOf,typeInfo,h2,Builtin.lenOf,Builtin.firstCells,loadCells,loadCellsFrom]
     ·cases a'<;>simp [Builtin.append_,run_underlying ht,sizeOf,typeInfo,h2,Builtin.lenOf,Builtin.firstCells,loadCells,loadCellsFrom,hnc,storeCells]
    ·rcases hown.2 with ⟨rfl,rfl⟩|⟨g0,o,cap,cur,rfl,hbg,hg,hnc,hcm,hcs,htake⟩
     ·simp [Builtin.append_,run_underlying ht,sizeOf,typeInfo,h2,Builtin.lenOf,Builtin.firstCells,loadCells,loadCellsFrom]
     ·simp [Builtin.append_,run_underlying ht,sizeOf,typeInfo,h2,Builtin.lenOf,Builtin.firstCells,loadCells,loadCellsFrom,hnc,storeCells]
  simp only [execOp,resolve,invoke,builtin,Sem.run_bind,Sem.run_pure,Result.andThen_ok,List.map_toArray,List.map_cons,List.map_nil,ha.ev hs,ha.ev hx,hq];exact h v w (by simpa using hown) ⟨rfl,rfl,rfl,Nat.le_refl _,fun _ _ _=>rfl⟩ fun k hk=>.inl hk
 have hm:0<m:=Nat.pos_of_ne_zero hm0;obtain⟨b',o',c',rfl,hmc,_,hat⟩:=hr.has hm;have hlen:(xs++news).length=(n+m)*size:=by rw [List.length_append,hown.1,hr.1,Nat.add_mul]
 have hnew:∀ j q,news[j]?=some q→w.cell? ((⟨b',o',none⟩:Addr).add j)=some q:=fun j q hj=>by rw [Addr.add_mid];exact hat j q hj
 have grown:∀ (old:Nat),OwnQ (w.drew.alloc (.cells (xs.toArray++news.toArray++Builtin.zeroCells z.cells (grownCap w (n+m) old e-(n+m))) e)) base e size
       (.slice (some ⟨w.heap.size,0,none⟩) (n+m) (grownCap w (n+m) old e)) (n+m) (xs++news):=by
   intro old;have hge:=grownCap_ge w (n+m) old e;have hcm:grownCap w (n+m) old e≤maxLen:=grownCap_le_maxLen w (n+m) old e hb0;refine⟨hlen,.inr ⟨w.heap.size,0,_,_,rfl,hbase,.plain (heap_alloc_new w.drew _),hge,hcm,?_,?_⟩⟩
   ·simp only [Array.size_append,List.size_toArray,size_zeroCells,hz,hown.1,hr.1,← Nat.add_mul];rw [Nat.zero_add];exact Nat.mul_le_mul_right _ (by omega)
   ·simp only [Array.toList_append,List.append_assoc,List.drop_zero];rw [← List.append_assoc,← hlen];exact List.take_left
 have hgr:∀ old row,w.grownBy (w.drew.alloc (.cells (xs.toArray++news.toArray++Builtin.zeroCells z.cells (grownCap w (n+m) old e-(n+m))) e)) row:=fun old row =>
   Ext.grownBy ((Below.refl _ _).alloc (Nat.le_refl _) _ |>.drew) row
 have hrun:∃ v' w',(Builtin.append_ #[t,t] ty #[v,.slice (some ⟨b',o',none⟩) m c']).run P w=.ok v' w'∧OwnQ w' base e size v' (n+m) (xs++news)∧w.grownBy w' v.ownBlock∧(∀ k,v'.ownBlock=some k→v.ownBlock=some k∨w.heap.size≤k):=by
   subst h4;have hsm:n+m≤9223372036854775807:=by simp only [maxLen]at hb0;omega
   rcases hown.2 with ⟨rfl,rfl⟩|⟨g0,o,cap,cur,rfl,hbg,hg,hnc,hcm,hcs,htake⟩
   ·have hx:xs=[]:=List.eq_nil_of_length_eq_zero (by simpa using hown.1)
    subst hx;have hr2:=run_append_nil (P:=P) w t ty e inf z ht h2 h3 ⟨b',o',none⟩ m c' news hr.1 hnew (by omega) (by omega) (by rw [h5];rw [Nat.zero_add]at hb;omega)
    have:=grown 0;have hg2:=hgr 0 (Value.ownBlock (.slice none 0 0));simp only [Nat.zero_add,List.nil_append,Array.empty_append]at this hg2 ⊢;exact⟨_,_,hr2,this,hg2,fun k hk=>.inr (by simp [Value.ownBlock]at hk;omega)⟩
   ·by_cases hroom:n+m≤cap
    ·have hfit:o+n*inf.size+news.length≤cur.size:=by
       have:(n+m)*inf.size≤cap*inf.size:=Nat.mul_le_mul_right _ hroom;rw [Nat.add_mul]at this;rw [hr.1];omega
     have hr2:=run_append_roomQ (P:=P) (ty:=ty) ht h2 hg hr.1 hnew h1 (c:=c') hroom hfit;refine⟨_,_,hr2,⟨hlen,.inr ⟨g0,o,cap,_,rfl,hbg,hg.setRow (by simp only [List.size_toArray,List.length_append,List.length_take,List.length_drop,Array.length_toList];omega),hroom,hcm,?_,?_⟩⟩,⟨rfl,rfl,rfl,by simp,fun k _ hk=>setRow_other w g0 k _ (fun e=>hk (by simp [Value.ownBlock,e]))⟩,fun k hk=>.inl hk⟩
     ·simp only [List.size_toArray,List.length_append,List.length_take,List.length_drop,Array.length_toList];omega
     ·have hol:o+n*inf.size≤cur.toList.length:=by rw [Array.length_toList];omega
      have e1:(cur.toList.take (o+n*inf.size)).drop o=xs:=by
        rw [← htake,List.drop_take]
        congr 1
        omega
      have hlo:(List.take (o+n*inf.size) cur.toList).length=o+n*inf.size:=by rw [List.length_take];omega
      rw [List.append_assoc,List.drop_append_of_le_length (by rw [hlo];omega),e1,← List.append_assoc,← hlen]
      exact List.take_left
    ·have hr2:=run_append_grow (P:=P) w t ty e inf z ht h2 h3 ⟨g0,o,none⟩ n cap xs hown.1 (fun j q hj=>by
         have hq:=(OwnQ.reads ⟨hown.1,.inr ⟨g0,o,cap,cur,rfl,hbg,hg,hnc,hcm,hcs,htake⟩⟩:Reads w inf.size (.slice (some ⟨g0,o,none⟩) n cap) n xs);rcases hq.2 with ⟨_,hn0⟩|⟨b2,o2,c2,ha',_,_,hat2⟩
         ·have hx0:xs=[]:=List.eq_nil_of_length_eq_zero (by rw [hown.1,hn0];simp)
          rw [hx0]at hj;cases hj
         ·cases ha';rw [Addr.add_mid]
          exact hat2 j q hj) ⟨b',o',none⟩ m c' news hr.1 hnew (by omega) (by omega) (growslice_fits (by omega) (by rw [h5];exact hb))
     exact⟨_,_,hr2,grown cap,hgr cap _,fun k hk=>.inr (by simp [Value.ownBlock]at hk;omega)⟩
 obtain⟨v',w',hq,h6,h7,h8⟩:=hrun;simp only [execOp,resolve,invoke,builtin,Sem.run_bind,Sem.run_pure,Result.andThen_ok,List.map_toArray,List.map_cons,List.map_nil,ha.ev hs,ha.ev hx,hq];exact h v' w' h6 h7 h8
end
end Go.XK
namespace Go.XK
open Go.RowKit
section
variable {P:Program} {env:List (Nat×Value)} {d:Option Tmp} {ty:TypeId} {pos:String} {af:Array Edge} {g:Option (Nat×Bool)} {T T':TypeId} {x y:Operand} {a b:ByteArray}
theorem run_seql (w:World):(binOp .eql T (.string a) (.string b)).run P w=.ok (.bool (decide (a=b))) w:=by
 rw [binOp_string_eql,Sem.run_pure];have:(a.toList==b.toList)=decide (a=b):=by rw [Bool.eq_iff_iff,Lib.bytes_beq_iff,decide_eq_true_eq]
 rw [this]
theorem run_sneq (w:World):(binOp .neq T (.string a) (.string b)).run P w=.ok (.bool (!decide (a=b))) w:=by
 rw [binOp_string_neq,Sem.run_pure];have:(a.toList==b.toList)=decide (a=b):=by rw [Bool.eq_iff_iff,Lib.bytes_beq_iff,decide_eq_true_eq]
 rw [this]
theorem Sil.seql (hx:ev env x=some (.string a)) (hy:ev env y=some (.string b)):Sil P env ⟨d,.binOp .eql T x y T',ty,pos,af,g⟩ (.bool (decide (a=b))):=fun act N ha w=>by
 simp only [execOp,ha.ev hx,ha.ev hy,eqGuard_at_string,Sem.run_bind,Sem.run_pure,Result.andThen_ok,run_seql];exact⟨rfl,rfl⟩
theorem Sil.sneq (hx:ev env x=some (.string a)) (hy:ev env y=some (.string b)):Sil P env ⟨d,.binOp .neq T x y T',ty,pos,af,g⟩ (.bool (!decide (a=b))):=fun act N ha w=>by
 simp only [execOp,ha.ev hx,ha.ev hy,eqGuard_at_string,Sem.run_bind,Sem.run_pure,Result.andThen_ok,run_sneq];exact⟨rfl,rfl⟩
end
end Go.XK
namespace Go.XK
open Go.RowKit
def Truths (w:World) (base:Nat) (e:TypeId) (v:Value) (n:Nat) (f:Int→Bool) (k:Nat):Prop:=∃ cells,w.ownsRow base e 1 v n cells∧∀ j:Nat,j<k→cells[j]?=some (.bool (f (j:Int)))
theorem Truths.ext {w w':World} {base:Nat} {e:TypeId} {v:Value} {n:Nat} {f:Int→Bool} {k:Nat} (h:Truths w base e v n f k) (he:Ext w w'):Truths w' base e v n f k:=by
 obtain⟨c,h1,h2⟩:=h;exact⟨c,Ext.own h1 he,h2⟩
theorem Truths.get {w:World} {base:Nat} {e:TypeId} {v:Value} {n:Nat} {f:Int→Bool} {k:Nat} (h:Truths w base e v n f k) {z:Int} (h0:0≤z) (hj:z<k) (hk:k≤n):w.cell? ⟨blk v,ofs v+z.toNat * 1,none⟩=some (.bool (f z)):=by
 obtain⟨c,h1,h2⟩:=h;rw [Nat.mul_one];have h3:=h2 z.toNat (by omega)
 rw [Int.toNat_of_nonneg h0]at h3;exact Reads.atB (Reads.of_own h1) (by omega) _ _ h3
theorem Truths.set {w:World} {base:Nat} {e:TypeId} {v:Value} {n:Nat} {f:Int→Bool} {k:Nat} {cells:List Value} (hc:∀ j:Nat,j<k→cells[j]?=some (.bool (f (j:Int)))) (hl:k<cells.length) (h:w.ownsRow base e 1 v n (cells.set k (.bool (f (k:Int))))):Truths w base e v n f (k+1):=by
 refine⟨_,h,fun j hj=>?_⟩
 rcases Nat.lt_or_eq_of_le (Nat.le_of_lt_succ hj)with hj|rfl
 ·rw [List.getElem?_set_ne (by omega)]
  exact hc j hj
 ·rw [List.getElem?_set_self hl]
end Go.XK
namespace Go.SX
open Go.XK Go.RowKit
def LIM:Nat:=140737488355328
structure Mm where
 w:World
 S:Nat→Prop
structure Mm.le (m m':Mm):Prop where
 S:∀ b,m.S b→m'.S b∧m'.w.heap[b]?=m.w.heap[b]?
 size:m.w.heap.size≤m'.w.heap.size
theorem Mm.le.refl (m:Mm):m.le m:=⟨fun _ h=>⟨h,rfl⟩,Nat.le_refl _⟩
theorem Mm.le.trans {a b c:Mm} (h:a.le b) (k:b.le c):a.le c:=⟨fun i hi=>⟨(k.S i (h.S i hi).1).1,(k.S i (h.S i hi).1).2.trans (h.S i hi).2⟩,Nat.le_trans h.size k.size⟩
def blkOf:Value→Option Nat
 |.pointer (some a)=>some a.block
 |.slice (some a) _ _=>some a.block
 |.map r=>r
 |_=>none
def nilOK (z:Option Bool) (y:Value):Prop:=match z,y with
 |some b,.slice a _ _=>a.isNone=b
 |_,_=>True
theorem at_same {w w':World} {b o:Nat} {us:List Value} (h:At w b o us) (he:w'.heap[b]?=w.heap[b]?):At w' b o us:=fun j v hj=>by
 rw [World.cell?_of_block (w:=w) (a:=⟨b,o+j,none⟩) he];exact h j v hj
theorem reads_le {m m':Mm} (hm:m.le m') {K n:Nat} {y:Value} {cs:List Value} (h:Reads m.w K y n cs) (hs:n≠0→∀ b,blkOf y=some b→m.S b):Reads m'.w K y n cs:=by
 refine⟨h.1,?_⟩;rcases h.2 with h2|⟨b,o,c,rfl,h3,h4,h5⟩
 ·exact .inl h2
 ·refine .inr ⟨b,o,c,rfl,h3,h4,?_⟩
  by_cases hn:n=0
  ·have:cs=[]:=List.eq_nil_of_length_eq_zero (by rw [h.1,hn,Nat.zero_mul])
   subst this;intro j v hj;cases hj
  ·exact at_same h5 (hm.S b (hs hn b rfl)).2
structure CP where
 p:Mm→Value→Prop
 le:∀ m m',m.le m'→∀ y,p m y→p m' y
 one:∀ m y,p m y→y.oneCell'=true
def DL:List CP→Mm→List Value→Prop
 |[],_,us=>us=[]
 |c::r,m,us=>∃ u us',us=u::us'∧c.p m u∧DL r m us'
theorem DL.le {m m':Mm} (hm:m.le m'):∀ {cs:List CP} {us:List Value},DL cs m us→DL cs m' us
 |[],_,h=>h
 |c::_,_,⟨u,us',h1,h2,h3⟩=>⟨u,us',h1,c.le m m' hm u h2,DL.le hm h3⟩
theorem DL.one {m:Mm}:∀ {cs:List CP} {us:List Value},DL cs m us→∀ u∈us,u.oneCell'=true
 |[],_,h,u,hu=>by rw [DL]at h;subst h;cases hu
 |c::_,_,⟨v,us',h1,h2,h3⟩,u,hu=>by
   subst h1;rcases List.mem_cons.1 hu with rfl|hu
   ·exact c.one m u h2
   ·exact DL.one h3 u hu
theorem DL.len {m:Mm}:∀ {cs:List CP} {us:List Value},DL cs m us→us.length=cs.length
 |[],_,h=>by rw [DL]at h;rw [h];rfl
 |_::_,_,⟨_,_,h1,_,h3⟩=>by rw [h1,List.length_cons,List.length_cons,DL.len h3]
def Elts {α:Type} (K:Nat) (D:α→List CP) (m:Mm) (l:List α) (uss:List (List Value)):Prop :=
 uss.length=l.length∧(∀ us∈uss,us.length=K)∧∀ (i:Nat) (x:α),l[i]?=some x→∃ us,uss[i]?=some us∧DL (D x) m us
theorem Elts.le {α:Type} {K:Nat} {D:α→List CP} {m m':Mm} (hm:m.le m') {l:List α} {uss:List (List Value)} (h:Elts K D m l uss):Elts K D m' l uss :=
 ⟨h.1,h.2.1,fun i x hx=>(h.2.2 i x hx).imp fun _ h=>⟨h.1,h.2.le hm⟩⟩
theorem Elts.flat {α:Type} {K:Nat} {D:α→List CP} {m:Mm} {l:List α} {uss:List (List Value)} (h:Elts K D m l uss):uss.flatten.length=l.length*K:=by
 rw [List.length_flatten,← h.1];have hc:=h.2.1;clear h
 induction uss with
 |nil=>simp
 |cons c r ih=>simp only [List.map_cons,List.sum_cons,List.length_cons,Nat.add_mul,ih (fun us h=>hc us (List.mem_cons_of_mem _ h)),hc c (List.mem_cons_self ..)];omega
theorem Elts.one {α:Type} {K:Nat} {D:α→List CP} {m:Mm} {l:List α} {uss:List (List Value)} (h:Elts K D m l uss):∀ u∈uss.flatten,u.oneCell'=true:=by
 intro u hu;obtain⟨us,h1,h2⟩:=List.mem_flatten.1 hu;obtain⟨i,hi,e⟩:=List.getElem_of_mem h1;obtain⟨us',h3,h4⟩:=h.2.2 i (l[i]'(by rw [← h.1];exact hi)) (List.getElem?_eq_getElem _)
 rw [List.getElem?_eq_getElem hi,e]at h3;cases h3;exact h4.one u h2
theorem Elts.nil {α:Type} {K:Nat} {D:α→List CP} {m:Mm}:Elts K D m ([]:List α) []:=⟨rfl,fun _ h=>by simp at h,fun _ _ h=>by simp at h⟩
theorem flatten_get {K:Nat}:∀ (us':List (List Value)) (k j:Nat),(∀ c∈us',c.length=K)→∀ (hi:k<us'.length),j<K→us'.flatten[k*K+j]?=us'[k][j]?
 |[],k,_,_,hi,_=>absurd hi (Nat.not_lt_zero _)
 |c::r,0,j,hc,_,hj=>by
   have hcl:=hc c (List.mem_cons_self ..);rw [List.flatten_cons,Nat.zero_mul,Nat.zero_add,List.getElem?_append_left (by omega)];rfl
 |c::r,k+1,j,hc,hi,hj=>by
   have hcl:=hc c (List.mem_cons_self ..);rw [List.flatten_cons,List.getElem?_append_right (by rw [hcl,Nat.add_mul];omega),hcl,show(k+1)*K+j-K=k*K+j by rw [Nat.add_mul];omega]
   exact flatten_get r k j (fun c h=>hc c (List.mem_cons_of_mem _ h)) (by simpa using hi) hj
theorem Elts.at {α:Type} {K:Nat} {D:α→List CP} {m:Mm} {l:List α} {uss:List (List Value)} (h:Elts K D m l uss) {b q:Nat} {w:World} (hat:At w b q uss.flatten) {k:Nat} (hk:k<l.length) (dd:α) :
   ∃ us,At w b (q+k*K) us∧us.length=K∧DL (D (l.getD k dd)) m us:=by
 obtain⟨h1,h2,h3⟩:=h;obtain⟨us,h4,h5⟩:=h3 k l[k] (List.getElem?_eq_getElem hk);have hku:k<uss.length:=by omega
 have e:uss[k]=us:=by
   rw [List.getElem?_eq_getElem hku]at h4;exact Option.some.inj h4
 have hl:=h2 us (by rw [← e];exact List.getElem_mem hku)
 refine⟨us,fun j v hj=>?_,hl,by rw [List.getD_eq_getElem?_getD,List.getElem?_eq_getElem hk];exact h5⟩
 have hjK:j<K:=by rw [← hl];exact(List.getElem?_eq_some_iff.1 hj).1
 have:=hat (k*K+j) v (by rw [flatten_get uss k j h2 hku hjK,e];exact hj)
 rw [Nat.add_assoc];exact this
def LD {α:Type} (K B:Nat) (D:α→List CP) (z:Option Bool) (l:List α) (m:Mm) (y:Value):Prop :=
 ∃ uss:List (List Value),Reads m.w K y l.length uss.flatten∧Elts K D m l uss∧(l≠[]→∀ b,blkOf y=some b→m.S b)∧nilOK z y∧l.length*B≤LIM
theorem LD.le {α:Type} {K B:Nat} {D:α→List CP} {z:Option Bool} {l:List α} {m m':Mm} (hm:m.le m') {y:Value} (h:LD K B D z l m y):LD K B D z l m' y:=by
 obtain⟨uss,h1,h2,h4,h5,h6⟩:=h;exact⟨uss,reads_le hm h1 fun hn=>h4 (fun e=>hn (by rw [e];rfl)),h2.le hm,fun hn b hb=>(hm.S b (h4 hn b hb)).1,h5,h6⟩
theorem LD.shape {α:Type} {K B:Nat} {D:α→List CP} {z:Option Bool} {l:List α} {m:Mm} {y:Value} (h:LD K B D z l m y):∃ b c,y=.slice b l.length c∧nilOK z y:=by
 obtain⟨uss,h1,_,_,h5,_⟩:=h;obtain⟨b,c,h,_⟩:=h1.len;exact⟨b,c,h,h5⟩
theorem LD.anyZ {α:Type} {K B:Nat} {D:α→List CP} {z:Option Bool} {l:List α} {m:Mm} {y:Value} (h:LD K B D z l m y):LD K B D none l m y:=by
 obtain⟨uss,h1,h2,h4,_,h6⟩:=h;exact⟨uss,h1,h2,h4,trivial,h6⟩
theorem LD.elem {α:Type} {K B:Nat} {D:α→List CP} {z:Option Bool} {l:List α} {m:Mm} {y:Value} (h:LD K B D z l m y) {k:Nat} (hk:k<l.length) (dd:α) :
   ∃ b q c us,y=.slice (some ⟨b,q,none⟩) l.length c∧m.S b∧At m.w b (q+k*K) us∧DL (D (l.getD k dd)) m us:=by
 obtain⟨uss,h1,h2,h4,_,_⟩:=h;obtain⟨b,q,c,rfl,_,_,hat⟩:=h1.has (by omega)
 obtain⟨us,h8,_,h9⟩:=h2.at hat hk dd;exact⟨b,q,c,us,rfl,h4 (fun e=>by rw [e]at hk;exact Nat.not_lt_zero _ hk) b rfl,h8,h9⟩
def STRMAX:Int:=9223372036854775807
theorem STRMAX_eq:IntKind.i64.max=STRMAX:=by decide
@[reducible] def InR (n:Int):Prop:=-9223372036854775808≤n∧n≤9223372036854775807
def CP.int (n:Int):CP:=⟨fun _ y=>y=.int .i64 n∧InR n,fun _ _ _ _ h=>h,fun _ _ h=>by rw [h.1];rfl⟩
def CP.bool (b:Bool):CP:=⟨fun _ y=>y=.bool b,fun _ _ _ _ h=>h,fun _ _ h=>by rw [h];rfl⟩
def CP.str (s:ByteArray):CP:=⟨fun _ y=>y=.string s∧(s.size:Int)≤STRMAX,fun _ _ _ _ h=>h,fun _ _ h=>by rw [h.1];rfl⟩
def CP.w8 (x:UInt8):CP:=⟨fun _ y=>y=.int .u8 x.toNat,fun _ _ _ _ h=>h,fun _ _ h=>by rw [h];rfl⟩
def CP.w32 (x:UInt32):CP:=⟨fun _ y=>y=.int .u32 x.toNat,fun _ _ _ _ h=>h,fun _ _ h=>by rw [h];rfl⟩
def CP.w64 (x:UInt64):CP:=⟨fun _ y=>y=.int .u64 x.toNat,fun _ _ _ _ h=>h,fun _ _ h=>by rw [h];rfl⟩
def CP.lst {α:Type} (K B:Nat) (D:α→List CP) (l:List α):CP:=⟨fun m y=>LD K B D none l m y,fun _ _ hm _ h=>h.le hm,fun _ _ h=>by obtain⟨_,_,rfl,_⟩:=h.shape;rfl⟩
end Go.SX
