/- A part of the proof (texts SC, SD, SE). -/
import Derived.Test.YtobpljbkdffkbaaGreatP04
set_option linter.all false
set_option maxRecDepth 100000
namespace Go.SX
open Go.XK Go.RowKit
inductive HB:Type
 |row (T:TypeId) (cells:List SV)
 |fro (T:TypeId) (cells:List SV)
 |arr (T:TypeId) (z:Option Bool) (c:Nat) (l:List (TabT c))
 |far (z:Option Bool) (c:Nat) (l:List (TabT c))
 |vec (T:TypeId) (N c:Nat) (l:List (TabT c))
 |mp (k v:Nat) (l:List (TabT k×TabT v))
 |nst (T T' c' c:Nat) (l:List (TabT c')) (h:Option (Int×Nat))
 |nfr (z:Option Bool) (c:Nat) (l:List (TabT c))
 |ext (own:Bool) (A:World→(Nat→Prop)→Value→Prop)
 |gone
abbrev Path:=List (Nat×Bool)
structure St where
 env:List (Nat×SV)
 gen:List (Nat×(Path×SV))
 kn:List (Nat×Bool)
 heap:List (Nat×HB)
 nb:Nat
 n0:Nat
section
universe u
def lk {α:Type u}:List (Nat×α)→Nat→Option α
 |[],_=>none
 |(k,v)::r,t=>match Nat.beq k t with
   |true=>some v
   |false=>lk r t
theorem lk_cons {α:Type u} {k t:Nat} {v:α} {r:List (Nat×α)}:lk ((k,v)::r) t=if k=t then some v else lk r t:=by
 simp only [lk]
 by_cases h:k=t
 ·subst h;simp
 ·have:Nat.beq k t=false:=by
    cases hb:Nat.beq k t with
    |false=>rfl
    |true=>exact absurd (Nat.eq_of_beq_eq_true hb) h
  simp [this,h]
end
def HB.own:HB→Bool
 |.row .. | .arr .. | .vec .. | .mp .. | .nst ..=>true
 |.ext b _=>b
 |_=>false
def hasB (v:Value) (b:Nat):Prop:=match v with
 |.tuple us=>∃ u∈us.toList,blkOf u=some b
 |v=>blkOf v=some b
theorem hasB_of {v:Value} {b:Nat} (h:blkOf v=some b):hasB v b:=by
 cases v<;>first|exact h|cases h
theorem hasB_one {v:Value} {b:Nat} (h1:v.oneCell'=true) (h:hasB v b):blkOf v=some b:=by
 cases v<;>first|exact h|cases h1
def RowOK (m:Mm) (T' c' c:Nat) (x:TabT c') (v:Value):Prop:=∃ (l:List (TabT c)) (uss:List (List Value)),ES c' x=some [.lst none c l]∧OwnQ m.w 0 T' (KT c) v l.length uss.flatten∧Elts (KT c) (TabD c) m l uss∧l.length*BT c≤LIM
structure NstOK (m:Mm) (ids:List Value) (T T' c' c:Nat) (ls:List (TabT c')) (h:Option (Int×Nat)) (v:Value) (vs us:List Value):Prop where
 out:OwnQ m.w 0 T 1 v ls.length us
 len:vs.length=ls.length
 K1:KT c'=1
 B:ls.length*BT c'≤LIM
 row:∀ (r:Nat) x,ls[r]?=some x→(∀ k j,h=some (k,j)→r≠k.toNat)→∃ u,vs[r]?=some u∧us[r]?=some u∧RowOK m T' c' c x u
 hole:∀ k j,h=some (k,j)→0≤k∧k.toNat<ls.length∧vs[k.toNat]?=some (.slice none 0 0)∧∃ u,us[k.toNat]?=some u∧ids[j]?=some u∧u.oneCell'=true
 sep:∀ (r s:Nat) (u u':Value) (b:Nat),(v::vs)[r]?=some u→(v::vs)[s]?=some u'→r≠s→blkOf u=some b→blkOf u'≠some b
def AOK (own:Bool) (A:World→(Nat→Prop)→Value→Prop):Prop :=
 ∀ m m':Mm,m.le m'→∀ v,(own=true→∀ b,hasB v b→b<m.w.heap.size→m'.w.heap[b]?=m.w.heap[b]?)→A m.w m.S v→A m'.w m'.S v
def HSat (m:Mm) (ids:List Value) (i:Nat):HB→Prop
 |.row T cs=>∃ b vs,ids[i]?=some (.pointer (some ⟨b,0,none⟩))∧Row m.w b T vs∧DenL m ids cs vs
 |.fro T cs=>∃ b vs,ids[i]?=some (.pointer (some ⟨b,0,none⟩))∧Row m.w b T vs∧DenL m ids cs vs∧m.S b
 |.arr T z c l=>∃ v uss,ids[i]?=some v∧OwnQ m.w 0 T (KT c) v l.length uss.flatten∧Elts (KT c) (TabD c) m l uss∧nilOK z v∧l.length*BT c≤LIM
 |.far z c l=>∃ v,ids[i]?=some v∧LD (KT c) (BT c) (TabD c) z l m v
 |.vec T N c l=>∃ (b:Nat) (uss:List (List Value)),ids[i]?=some (.pointer (some ⟨b,0,none⟩))∧Row m.w b T uss.flatten∧Elts (KT c) (TabD c) m l uss∧l.length=N
 |.mp kc vc l=>∃ b,ids[i]?=some (.map (some b))∧MRow m.w b (TV kc) (l.map fun p=>(p.1,TV vc p.2))∧∀ p∈l,DL (TabD vc p.2) m (TV vc p.2).cells.toList
 |.nst T T' c' c ls h=>∃ v vs us,ids[i]?=some (.tuple (v::vs).toArray)∧NstOK m ids T T' c' c ls h v vs us
 |.nfr z c l=>∃ v vs,ids[i]?=some (.tuple (v::vs).toArray)∧LD (KT c) (BT c) (TabD c) z l m v
 |.ext own A=>∃ v,ids[i]?=some v∧AOK own A∧(own=true→∀ b,hasB v b→b<m.w.heap.size)∧A m.w m.S v
 |.gone=>True
def Fp (ids:List Value) (i:Nat) (hb:HB) (b:Nat):Prop:=hb.own=true∧∃ v,ids[i]?=some v∧hasB v b
structure HeapOK (m:Mm) (ids:List Value) (H:List (Nat×HB)):Prop where
 sat:∀ i hb,lk H i=some hb→HSat m ids i hb
 sep:∀ i hb j hb',lk H i=some hb→lk H j=some hb'→i≠j→∀ b,Fp ids i hb b→¬ Fp ids j hb' b
 fpS:∀ i hb b,lk H i=some hb→Fp ids i hb b→¬ m.S b
def Holds (a:Act) (π:Path):Prop:=∀ g∈π,a.tmps.getD g.1 undef=.bool g.2
structure Cx where
 dl:List Deferred
 N:Nat
 w0:World
 T0:Nat→Prop
 S0:Nat→Prop
 ids0:List Value
 G:Nat→Option SV
def Glob (G:Nat→Option SV) (m:Mm):Prop:=∀ g s,G g=some s→Den m [] s (.pointer (some ⟨g,0,none⟩))
theorem Glob.le {G:Nat→Option SV} {m m':Mm} (h:Glob G m) (hm:m.le m'):Glob G m':=fun g s hg=>Den.le hm s (h g s hg)
structure SatH (C:Cx) (σ:St) (m:Mm) (ids:List Value):Prop where
 len:ids.length=σ.nb
 heap:HeapOK m ids σ.heap
 low:∀ i hb b,lk σ.heap i=some hb→Fp ids i hb b→C.T0 b∨C.w0.heap.size≤b
 S0:∀ b,C.S0 b→m.S b
 S:∀ b,m.S b→b<m.w.heap.size∧(C.S0 b∨C.T0 b∨C.w0.heap.size≤b)
 mod:Mod C.T0 C.w0 m.w
 glob:Glob C.G m
 n0:C.ids0.length=σ.n0
 pre:∀ i,i<σ.n0→ids[i]?=C.ids0[i]?
structure SatF (C:Cx) (σ:St) (m:Mm) (ids:List Value) (a:Act):Prop where
 size:a.tmps.size=C.N
 defers:a.defers=C.dl
 env:∀ t s,lk σ.env t=some s→t<C.N∧Den m ids s (a.tmps.getD t undef)
 gen:∀ t π s,lk σ.gen t=some (π,s)→t<C.N∧(Holds a π→Den m ids s (a.tmps.getD t undef))∧(¬ Holds a π→a.tmps.getD t undef=undef)
 kn:∀ s b,lk σ.kn s=some b→a.tmps.getD s undef=.bool b
structure Sat (C:Cx) (σ:St) (m:Mm) (ids:List Value) (a:Act):Prop extends SatH C σ m ids,SatF C σ m ids a
section
variable {C:Cx} {σ:St} {m m':Mm} {ids:List Value} {a:Act}
theorem own_lt {w:World} {e:TypeId} {K n b:Nat} {v:Value} {xs:List Value} (h:OwnQ w 0 e K v n xs) (hb:blkOf v=some b):b<w.heap.size:=by
 cases v with
 |slice x n c=>cases x with
   |none=>cases hb
   |some x=>exact(h.lt b hb).2
 |_=>obtain⟨_,_,h5,_⟩:=h.reads.len;cases h5
theorem own_one {w:World} {e:TypeId} {K n base:Nat} {v:Value} {xs:List Value} (h:OwnQ w base e K v n xs):v.oneCell'=true:=by
 obtain⟨_,_,rfl,_⟩:=h.reads.len;rfl
theorem fp_lt {i:Nat} {hb:HB} {b:Nat} (h:HSat m ids i hb) (hf:Fp ids i hb b):b<m.w.heap.size:=by
 obtain⟨ho,v,h1,h2⟩:=hf;cases hb<;>simp only [HB.own]at ho<;>try (cases ho;done)
 case row T cs =>
   obtain⟨b',vs,h3,h4,_⟩:=h;rw [h3]at h1;cases h1;cases h2;exact h4.lt
 case arr =>
   obtain⟨v',uss,h3,h4,_⟩:=h;rw [h3]at h1;cases h1;exact own_lt h4 (hasB_one (own_one h4) h2)
 case vec =>
   obtain⟨b',vs,h3,h4,_⟩:=h;rw [h3]at h1;cases h1;cases h2;exact h4.lt
 case mp =>
   obtain⟨b',h3,h4,_⟩:=h;rw [h3]at h1;cases h1;cases h2;exact h4.lt
 case nst =>
   obtain⟨v',vs,us,h3,h4⟩:=h;rw [h3]at h1;cases h1;obtain⟨u,hu,hb⟩:=h2;simp only [List.mem_cons]at hu;rcases hu with rfl|hu
   ·exact own_lt h4.out hb
   ·obtain⟨r,hr,rfl⟩:=List.getElem_of_mem hu;rename_i T T' c' c ls h;have hrl:r<ls.length:=by rw [← h4.len];exact hr
    by_cases hh:∀ k j,h=some (k,j)→r≠k.toNat
    ·obtain⟨u,q1,_,l,uss,_,q2,_⟩:=h4.row r _ (List.getElem?_eq_getElem hrl) hh;rw [List.getElem?_eq_getElem hr]at q1;cases q1;exact own_lt q2 hb
    ·simp only [Classical.not_forall]at hh;obtain⟨k,j,e,hk⟩:=hh;have hk:r=k.toNat:=Classical.not_not.1 hk;obtain⟨_,_,q1,_⟩:=h4.hole k j e;rw [← hk,List.getElem?_eq_getElem hr]at q1;rw [Option.some.inj q1]at hb;cases hb
 case ext own A =>
   obtain⟨v',h3,_,h5,_⟩:=h;rw [h3]at h1;cases h1;exact h5 ho b h2
theorem ownQ_same {w w':World} {base:Nat} {e:TypeId} {size n:Nat} {v:Value} {xs:List Value} (h:OwnQ w base e size v n xs) (hs:∀ b,blkOf v=some b→w'.heap[b]?=w.heap[b]?):OwnQ w' base e size v n xs:=by
 refine⟨h.1,?_⟩;rcases h.2 with h2|⟨g,o,cap,cur,hv,hg,hh,r⟩
 ·exact .inl h2
 ·exact .inr ⟨g,o,cap,cur,hv,hg,hh.same (hs g (by rw [hv];rfl)),r⟩
theorem HSat.le {i:Nat} {hb:HB} (hm:m.le m') (h:HSat m ids i hb) (hs:∀ b,Fp ids i hb b→m'.w.heap[b]?=m.w.heap[b]?):HSat m' ids i hb:=by
 cases hb with
 |row T cs =>
   obtain⟨b,vs,h3,h4,h5⟩:=h;exact⟨b,vs,h3,(hs b ⟨rfl,_,h3,rfl⟩).trans h4,DenL.le hm _ h5⟩
 |fro T cs =>
   obtain⟨b,vs,h3,h4,h5,h6⟩:=h;exact⟨b,vs,h3,(hm.S b h6).2.trans h4,DenL.le hm _ h5,(hm.S b h6).1⟩
 |arr =>
   obtain⟨v,uss,h3,h4,h5,h6⟩:=h;exact⟨v,uss,h3,ownQ_same h4 fun b hb=>hs b ⟨rfl,_,h3,hasB_of hb⟩,h5.le hm,h6⟩
 |far =>
   obtain⟨v,h3,h4⟩:=h;exact⟨v,h3,h4.le hm⟩
 |vec =>
   obtain⟨b,uss,h3,h4,h5⟩:=h;exact⟨b,uss,h3,(hs b ⟨rfl,_,h3,rfl⟩).trans h4,h5.1.le hm,h5.2⟩
 |mp =>
   obtain⟨b,h3,⟨es,ck,h4,h5⟩,h6⟩:=h;exact⟨b,h3,⟨es,ck,(hs b ⟨rfl,_,h3,rfl⟩).trans h4,h5⟩,fun p hp=>(h6 p hp).le hm⟩
 |ext own A =>
   obtain⟨v,h3,h4,h5,h6⟩:=h;exact⟨v,h3,h4,fun ho b hb=>Nat.lt_of_lt_of_le (h5 ho b hb) hm.size,h4 m m' hm v (fun ho b hb _=>hs b ⟨ho,v,h3,hb⟩) h6⟩
 |nst =>
   obtain⟨v,vs,us,h3,h4⟩:=h;refine⟨v,vs,us,h3,ownQ_same h4.out (fun b hb=>hs b ⟨rfl,_,h3,v,by simp,hb⟩),h4.len,h4.K1,h4.B,fun r x hr hh=>?_,h4.hole,h4.sep⟩
   obtain⟨u,h5,h6,l,uss,h7,h8,h9,h10⟩:=h4.row r x hr hh;exact⟨u,h5,h6,l,uss,h7,ownQ_same h8 fun b hb=>hs b ⟨rfl,_,h3,u,by simp [List.mem_of_getElem? h5],hb⟩,h9.le hm,h10⟩
 |nfr =>
   obtain⟨v,vs,h3,h4⟩:=h;exact⟨v,vs,h3,h4.le hm⟩
 |gone=>exact True.intro
theorem HeapOK.le {H:List (Nat×HB)} (h:HeapOK m ids H) (hm:m.le m') (hs:∀ i hb b,lk H i=some hb→Fp ids i hb b→m'.w.heap[b]?=m.w.heap[b]?∧¬ m'.S b):HeapOK m' ids H :=
 ⟨fun i hb hi=>(h.sat i hb hi).le hm fun b hf=>(hs i hb b hi hf).1,h.sep,fun i hb b hi hf=>(hs i hb b hi hf).2⟩
theorem Ext.le {w w':World} {S:Nat→Prop} (h:Ext w w') (hS:∀ b,S b→b<w.heap.size):(⟨w,S⟩:Mm).le ⟨w',S⟩:=⟨fun b hb=>⟨hb,h.block b (hS b hb)⟩,h.size⟩
theorem SatH.ext {w':World} (h:SatH C σ m ids) (he:Ext m.w w'):SatH C σ ⟨w',m.S⟩ ids:=by
 refine⟨h.len,h.heap.le (Ext.le (S:=m.S) he fun b hb=>(h.S b hb).1) fun i hb b hi hf=>⟨he.block b (fp_lt (h.heap.sat i hb hi) hf),h.heap.fpS i hb b hi hf⟩,h.low,h.S0,fun b hb=>⟨Nat.lt_of_lt_of_le (h.S b hb).1 he.size,(h.S b hb).2⟩,h.mod.trans (he.mod _),h.glob.le (Ext.le (S:=m.S) he fun b hb=>(h.S b hb).1),h.n0,h.pre⟩
theorem SatF.le (h:SatF C σ m ids a) (hm:m.le m'):SatF C σ m' ids a :=
 ⟨h.size,h.defers,fun t s hl=>⟨(h.env t s hl).1,Den.le hm _ (h.env t s hl).2⟩,fun t π s hl=>⟨(h.gen t π s hl).1,fun hh=>Den.le hm _ ((h.gen t π s hl).2.1 hh),(h.gen t π s hl).2.2⟩,h.kn⟩
theorem SatF.app (h:SatF C σ m ids a) (e:List Value):SatF C σ m (ids++e) a :=
 ⟨h.size,h.defers,fun t s hl=>⟨(h.env t s hl).1,Den.app e _ (h.env t s hl).2⟩,fun t π s hl=>⟨(h.gen t π s hl).1,fun hh=>Den.app e _ ((h.gen t π s hl).2.1 hh),(h.gen t π s hl).2.2⟩,h.kn⟩
theorem SatF.of {σ':St} (h:SatF C σ m ids a) (he:σ'.env=σ.env) (hg:σ'.gen=σ.gen) (hk:σ'.kn=σ.kn):SatF C σ' m ids a :=
 ⟨h.size,h.defers,by rw [he];exact h.env,by rw [hg];exact h.gen,by rw [hk];exact h.kn⟩
theorem Sat.ext {w':World} (h:Sat C σ m ids a) (he:Ext m.w w'):Sat C σ ⟨w',m.S⟩ ids a :=
 ⟨h.toSatH.ext he,h.toSatF.le (Ext.le (S:=m.S) he fun b hb=>(h.S b hb).1)⟩
end
def noPath (t:Nat):Path→Bool
 |[]=>true
 |(s,_)::r=>match Nat.beq s t with
   |true=>false
   |false=>noPath t r
def freshG (t:Nat):List (Nat×(Path×SV))→Bool
 |[]=>true
 |(s,(π,_))::r=>match Nat.beq s t with
   |true=>false
   |false=>match noPath t π with
     |true=>freshG t r
     |false=>false
def freshK (t:Nat):List (Nat×Bool)→Bool
 |[]=>true
 |(s,_)::r=>match Nat.beq s t with
   |true=>false
   |false=>freshK t r
def fresh (σ:St) (d:Option Tmp):Bool:=match d with
 |none=>true
 |some t=>match freshG t σ.gen with
   |true=>freshK t σ.kn
   |false=>false
theorem noPath_spec {t:Nat}:∀ {π:Path},noPath t π=true→∀ g∈π,g.1≠t
 |[],_,_,h=>by cases h
 |(s,b)::r,h,g,hg=>by
   simp only [noPath]at h;split at h
   ·cases h
   ·rename_i hb;have hne:s≠t:=fun e=>by subst e;simp at hb
    rcases List.mem_cons.1 hg with rfl|hg
    ·exact hne
    ·exact noPath_spec h g hg
theorem freshG_spec {t:Nat}:∀ {l:List (Nat×(Path×SV))},freshG t l=true→∀ s π x,lk l s=some (π,x)→s≠t∧∀ g∈π,g.1≠t
 |[],_,_,_,_,h=>by cases h
 |(s',(π',x'))::r,h,s,π,x,hl=>by
   simp only [freshG]at h;split at h
   ·cases h
   ·rename_i hb;have hne:s'≠t:=fun e=>by subst e;simp at hb
    split at h
    ·rename_i hp;rw [lk_cons]at hl;split at hl
     ·rename_i e;cases hl;subst e;exact⟨hne,noPath_spec hp⟩
     ·exact freshG_spec h s π x hl
    ·cases h
theorem freshK_spec {t:Nat}:∀ {l:List (Nat×Bool)},freshK t l=true→∀ s x,lk l s=some x→s≠t
 |[],_,_,_,h=>by cases h
 |(s',x')::r,h,s,x,hl=>by
   simp only [freshK]at h;split at h
   ·cases h
   ·rename_i hb;rw [lk_cons]at hl;split at hl
    ·rename_i e;subst e;exact fun e=>by subst e;simp at hb
    ·exact freshK_spec h s x hl
def setE (σ:St) (d:Option Tmp) (s:SV):St:=match d with
 |none=>σ
 |some t=>{ σ with env:=(t,s)::σ.env }
def setG (σ:St) (d:Option Tmp) (π:Path) (s:SV):St:=match d with
 |none=>σ
 |some t=>{ σ with gen:=(t,(π,s))::σ.gen }
section
variable {C:Cx} {σ:St} {m m':Mm} {ids:List Value} {a:Act}
theorem put_get {t u:Nat} {v:Value} (h:t≠u):(a.put (some t) v).tmps.getD u undef=a.tmps.getD u undef:=by
 simp only [Act.put,Array.getD_eq_getD_getElem?,Array.getElem?_setIfInBounds_ne h]
theorem put_same {t:Nat} {v:Value} (h:t<a.tmps.size):(a.put (some t) v).tmps.getD t undef=v:=by
 simp [Act.put,Array.getD_eq_getD_getElem?,h]
theorem holds_put {t:Nat} {v:Value} {π:Path} (h:∀ g∈π,g.1≠t):Holds (a.put (some t) v) π↔Holds a π:=by
 constructor
 ·intro hh g hg;have:=hh g hg
  rwa [put_get (fun e=>h g hg e.symm)]at this
 ·intro hh g hg;rw [put_get (fun e=>h g hg e.symm)]
  exact hh g hg
theorem dlt {t N:Nat} (h:dOK (some t) N=true):t<N:=by simpa [dOK] using h
theorem SatF.put (h:SatF C σ m ids a) {d:Option Tmp} (hd:dOK d C.N=true) (hf:fresh σ d=true) {s:SV} {v:Value} (hv:Den m ids s v):SatF C (setE σ d s) m ids (a.put d v):=by
 cases d with
 |none=>exact h
 |some t =>
   have ht:=dlt hd;have hts:t<a.tmps.size:=by rw [h.size];exact ht
   simp only [fresh]at hf;split at hf
   ·rename_i hg;refine⟨by simp [Act.put,h.size],h.defers,fun u x hu=>?_,fun u π x hu=>?_,fun u b hu=>?_⟩
    ·simp only [setE,lk_cons]at hu;split at hu
     ·rename_i e;subst e;cases hu;rw [put_same hts];exact⟨ht,hv⟩
     ·rename_i e;rw [put_get e];exact h.env u x hu
    ·obtain⟨h1,h2⟩:=freshG_spec hg u π x hu;rw [put_get (Ne.symm h1)];rw [holds_put h2];exact h.gen u π x hu
    ·rw [put_get (Ne.symm (freshK_spec hf u b hu))];exact h.kn u b hu
   ·cases hf
theorem SatF.putG (h:SatF C σ m ids a) {d:Option Tmp} (hd:dOK d C.N=true) (hf:fresh σ d=true) {π:Path} (hn:∀ t,d=some t→∀ g∈π,g.1≠t) {s:SV} {v:Value} (hv:Holds a π→Den m ids s v) (hv':¬ Holds a π→v=undef):SatF C (setE (setG σ d π s) d .un) m ids (a.put d v):=by
 cases d with
 |none=>exact h
 |some t =>
   have ht:=dlt hd;have hts:t<a.tmps.size:=by rw [h.size];exact ht
   simp only [fresh]at hf;split at hf
   ·rename_i hg;refine⟨by simp [Act.put,h.size],h.defers,fun u x hu=>?_,fun u π' x hu=>?_,fun u b hu=>?_⟩
    ·simp only [setE,setG,lk_cons]at hu;split at hu
     ·rename_i e;subst e;cases hu;exact⟨ht,by rw [Den];trivial⟩
     ·rename_i e;rw [put_get e];exact h.env u x hu
    ·simp only [setE,setG,lk_cons]at hu;split at hu
     ·rename_i e;subst e;cases hu;rw [put_same hts,holds_put (hn t rfl)];exact⟨ht,hv,hv'⟩
     ·rename_i e;obtain⟨h1,h2⟩:=freshG_spec hg u π' x hu;rw [put_get e,holds_put h2];exact h.gen u π' x hu
    ·rw [put_get (Ne.symm (freshK_spec hf u b hu))];exact h.kn u b hu
   ·cases hf
end
end Go.SX
namespace Go.SX
open Go.XK Go.RowKit
inductive Kn
 |bool
 |int (k:IntKind)
 |str
 |slice (e:TypeId)
 |arr (n:Nat) (e:TypeId)
 |strct (fs:List (Nat×TypeId))
 |map (k v:TypeId)
 |iface
 |oth
structure TyI where
 kn:Kn
 size:Nat
 bytes:Nat
 code:Nat
 z:Value
 eq:List Nat
def KnOK (P:Program) (T:TypeId):Kn→Prop
 |.bool=>P.underlying T=some .bool
 |.int k=>P.underlying T=some (.int k)
 |.str=>P.underlying T=some .string
 |.slice e=>P.underlying T=some (.slice e)
 |.arr n e=>P.underlying T=some (.array n e)
 |.strct fs=>∃ F:Array Field,P.underlying T=some (.struct F)∧F.toList.map (fun f=>(f.offset,f.type))=fs∧(F.toList.all fun f=>(P.info? f.type).isSome)=true
 |.map k v=>P.underlying T=some (.map k v)
 |.iface=>∃ ms,P.underlying T=some (.interface ms)
 |.oth=>(match P.underlying T with|some (.struct _)|some (.array ..)|some (.interface _)|none=>false|_=>true)=true
def eqVs:List Nat→List Value→List Value→Option Bool
 |[],[],[]=>some true
 |1::ks,.int .i64 m::r,.int .i64 n::q=>(eqVs ks r q).map fun y=>decide (m=n)&&y
 |2::ks,.string m::r,.string n::q=>(eqVs ks r q).map fun y=>decide (m=n)&&y
 |3::ks,.bool m::r,.bool n::q=>(eqVs ks r q).map fun y=>decide (m=n)&&y
 |_,_,_=>none
def EqR (P:Program) (op:BinOp) (T:TypeId) (us vs:List Value) (r:Bool):Prop :=
 ∀ x y w,((do eqGuard op T x y (.agg us.toArray) (.agg vs.toArray);binOp op T (.agg us.toArray) (.agg vs.toArray)):Sem Value).run P w=.ok (.bool r) w
structure TyOK (P:Program) (T:TypeId) (i:TyI):Prop where
 kn:KnOK P T i.kn
 info:Inf P T i.z i.size i.bytes
 zc:i.z.cells.size=i.size
 eq:i.eq≠[]→∀ us vs r,eqVs i.eq us vs=some r→EqR P .eql T us vs r∧EqR P .neq T us vs (!r)
inductive BTr
 |lf
 |nd (l:BTr) (k:Nat) (v:TyI) (r:BTr)
def BTr.get:BTr→Nat→Option TyI
 |.lf,_=>none
 |.nd l k v r,t=>match Nat.beq t k with
   |true=>some v
   |false=>match Nat.blt t k with
     |true=>l.get t
     |false=>r.get t
def BTr.All (p:Nat→TyI→Prop):BTr→Prop
 |.lf=>True
 |.nd l k v r=>l.All p∧p k v∧r.All p
theorem BTr.get_all {p:Nat→TyI→Prop}:∀ {b:BTr},b.All p→∀ {t:Nat} {i:TyI},b.get t=some i→p t i
 |.lf,_,_,_,h=>by cases h
 |.nd l k v r,⟨h1,h2,h3⟩,t,i,h=>by
   simp only [BTr.get]at h;split at h
   ·rename_i hb;cases Nat.eq_of_beq_eq_true hb;cases h;exact h2
   ·split at h
    ·exact BTr.get_all h1 h
    ·exact BTr.get_all h3 h
def MethOK (P:Program) (t:TypeId) (n:String) (f:FuncId):Option TypeId→Prop
 |none=>∀ v w,(method (P.types.size+Made.depth) t v n).run P w=.ok (f,v) w
 |some T=>∀ b v w,(loadVar T ⟨b,0,none⟩).run P w=.ok v w→(method (P.types.size+Made.depth) t (.pointer (some ⟨b,0,none⟩)) n).run P w=.ok (f,v) w
structure En where
 P:Program
 TI:TypeId→Option TyI
 G:Nat→Option SV
 KO:TypeId→Nat→Bool
 MT:TypeId→String→Option (FuncId×Option TypeId)
 hT:∀ T i,TI T=some i→TyOK P T i
 hK:∀ T c,KO T c=true→KeyOK P T (TV c)
 hm:P.follows .mixedOrders=true
 hM:∀ t n f r,MT t n=some (f,r)→MethOK P t n f r
inductive PR:Type
 |ok (s:SV)
 |ob (p:Prop) (s:SV)
 |hy (p:Prop) (s:SV)
 |hb (h p:Prop) (s:SV)
 |ar (h:Prop) (x:Int)
 |ap (h p:Prop) (x:Int)
 |no
inductive Rd
 |dead
 |path (π:Path)
def red (kn:List (Nat×Bool)):Path→Rd
 |[]=>.path []
 |(s,b)::r=>match lk kn s with
   |some c=>match b,c with
     |true,true=>red kn r
     |false,false=>red kn r
     |_,_=>.dead
   |none=>match red kn r with
     |.dead=>.dead
     |.path π=>.path ((s,b)::π)
def isPre:Path→Path→Bool
 |[],_=>true
 |_::_,[]=>false
 |(s,b)::r,(t,c)::q=>match Nat.beq s t with
   |true=>match b,c with
     |true,true=>isPre r q
     |false,false=>isPre r q
     |_,_=>false
   |false=>false
def St.slot (σ:St) (π:Path) (t:Nat):Option SV:=match lk σ.gen t with
 |some (ρ,x)=>match red σ.kn ρ with
   |.path ρ'=>match isPre ρ' π with
     |true=>some x
     |false=>none
   |.dead=>none
 |none=>lk σ.env t
def in64:Int→Bool
 |.ofNat n=>Nat.blt n 9223372036854775808
 |.negSucc n=>Nat.blt n 9223372036854775808
theorem in64_ok:∀ {n:Int},in64 n=true→InR n
 |.ofNat n,h=>by
   have:n+1≤9223372036854775808:=Nat.le_of_ble_eq_true h;constructor<;>simp<;>omega
 |.negSucc n,h=>by
   have:n+1≤9223372036854775808:=Nat.le_of_ble_eq_true h;constructor<;>omega
def constSV:Value→SV
 |.string s=>match Nat.ble s.size 1000000 with
   |true=>.str s
   |false=>.v (.string s)
 |.int .i64 n=>match in64 n with
   |true=>.i n
   |false=>.v (.int .i64 n)
 |.int .u8 (.ofNat n)=>match Nat.blt n 256 with
   |true=>.w8 (UInt8.ofNat n)
   |false=>.v (.int .u8 (.ofNat n))
 |.int .u32 (.ofNat n)=>match Nat.blt n 4294967296 with
   |true=>.w32 (UInt32.ofNat n)
   |false=>.v (.int .u32 (.ofNat n))
 |.int .u64 (.ofNat n)=>match Nat.blt n 18446744073709551616 with
   |true=>.w64 (UInt64.ofNat n)
   |false=>.v (.int .u64 (.ofNat n))
 |.bool b=>.b b
 |v=>.v v
def St.ev (E:En) (σ:St) (π:Path):Operand→Option SV
 |.tmp t=>σ.slot π t
 |.const v=>some (constSV v)
 |.func f=>some (.clo f [] [])
 |.global g=>E.G g
def St.evs (E:En) (σ:St) (π:Path):List Operand→Option (List SV)
 |[]=>some []
 |x::r=>match σ.ev E π x,σ.evs E π r with
   |some s,some l=>some (s::l)
   |_,_=>none
def St.pevs (E:En) (σ:St) (π:Path):List (Nat×Operand)→Option (List (Nat×SV))
 |[]=>some []
 |(i,x)::r=>match σ.ev E π x,σ.pevs E π r with
   |some s,some l=>some ((i,s)::l)
   |_,_=>none
def ikN:IntKind→Nat
 |.i8=>0 | .i16=>1 | .i32=>2 | .i64=>3 | .u8=>4 | .u16=>5 | .u32=>6 | .u64=>7
theorem ikN_inj {a b:IntKind} (h:Nat.beq (ikN a) (ikN b)=true):a=b:=by
 cases a<;>cases b<;>first|rfl|cases h
def iand (m n:Int):Int:=IntKind.i64.wrap (BitVec.ofInt 64 m &&& BitVec.ofInt 64 n).toNat
def ior (m n:Int):Int:=IntKind.i64.wrap (BitVec.ofInt 64 m ||| BitVec.ofInt 64 n).toNat
def ixor (m n:Int):Int:=IntKind.i64.wrap (BitVec.ofInt 64 m ^^^ BitVec.ofInt 64 n).toNat
def iandn (m n:Int):Int:=IntKind.i64.wrap (BitVec.ofInt 64 m &&& ~~~BitVec.ofInt 64 n).toNat
def intB (op:BinOp) (m n:Int):PR:=match op with
 |.add=>.ar (InR m∧InR n) (m+n)
 |.sub=>.ar (InR m∧InR n) (m-n)
 |.mul=>.ar (InR m∧InR n) (m*n)
 |.quo=>.ap (InR m∧InR n) (n≠0) (m.tdiv n)
 |.rem=>.ob (n≠0) (.i (m.tmod n))
 |.and=>.ok (.i (iand m n))
 |.or=>.ok (.i (ior m n))
 |.xor=>.ok (.i (ixor m n))
 |.andNot=>.ok (.i (iandn m n))
 |.eql=>.ok (.b (decide (m=n)))
 |.neq=>.ok (.b (!decide (m=n)))
 |.lss=>.ok (.b (decide (m<n)))
 |.leq=>.ok (.b (decide (m≤n)))
 |.gtr=>.ok (.b (decide (n<m)))
 |.geq=>.ok (.b (decide (n≤m)))
 |_=>.no
def w8B (op:BinOp) (m n:UInt8):PR:=match op with
 |.add=>.ok (.w8 (m+n))
 |.sub=>.ok (.w8 (m-n))
 |.and=>.ok (.w8 (m &&& n))
 |.or=>.ok (.w8 (m ||| n))
 |.xor=>.ok (.w8 (m ^^^ n))
 |.eql=>.ok (.b (decide (m=n)))
 |.neq=>.ok (.b (!decide (m=n)))
 |.lss=>.ok (.b (decide (m<n)))
 |.leq=>.ok (.b (decide (m≤n)))
 |.gtr=>.ok (.b (decide (n<m)))
 |.geq=>.ok (.b (decide (n≤m)))
 |_=>.no
def w64B (op:BinOp) (m n:UInt64):PR:=match op with
 |.add=>.ok (.w64 (m+n))
 |.sub=>.ok (.w64 (m-n))
 |.mul=>.ok (.w64 (m*n))
 |.quo=>.ob (n≠0) (.w64 (m / n))
 |.rem=>.ob (n≠0) (.w64 (m % n))
 |.and=>.ok (.w64 (m &&& n))
 |.or=>.ok (.w64 (m ||| n))
 |.xor=>.ok (.w64 (m ^^^ n))
 |.andNot=>.ok (.w64 (m &&& ~~~n))
 |.eql=>.ok (.b (decide (m=n)))
 |.neq=>.ok (.b (!decide (m=n)))
 |.lss=>.ok (.b (decide (m<n)))
 |.leq=>.ok (.b (decide (m≤n)))
 |.gtr=>.ok (.b (decide (n<m)))
 |.geq=>.ok (.b (decide (n≤m)))
 |_=>.no
def shl64 (x:UInt64) (n:Int):UInt64:=UInt64.ofNat (x.toNat <<< min n.toNat 64)
def shr64 (x:UInt64) (n:Int):UInt64:=UInt64.ofNat (x.toNat >>> min n.toNat 64)
def shl8 (x:UInt8) (n:Int):UInt8:=UInt8.ofNat (x.toNat <<< min n.toNat 8)
def shr8 (x:UInt8) (n:Int):UInt8:=UInt8.ofNat (x.toNat >>> min n.toNat 8)
def shI (op:BinOp) (m n:Int):PR:=match op with
 |.shl=>.ap (InR m) (0≤n) (m*2 ^ min n.toNat 64)
 |.shr=>.ob (0≤n) (.i (m.fdiv (2 ^ min n.toNat 64)))
 |_=>.no
def sh8 (op:BinOp) (m:UInt8) (n:Int):PR:=match op with
 |.shl=>.ob (0≤n) (.w8 (shl8 m n))
 |.shr=>.ob (0≤n) (.w8 (shr8 m n))
 |_=>.no
def sh64 (op:BinOp) (m:UInt64) (n:Int):PR:=match op with
 |.shl=>.ob (0≤n) (.w64 (shl64 m n))
 |.shr=>.ob (0≤n) (.w64 (shr64 m n))
 |_=>.no
def isSh:BinOp→Bool
 |.shl=>true
 |.shr=>true
 |_=>false
def sless (a b:ByteArray):Bool:=Op.bytesLess a.toList b.toList
def strB (op:BinOp) (a b:ByteArray):PR:=match op with
 |.eql=>.ok (.b (decide (a=b)))
 |.neq=>.ok (.b (!decide (a=b)))
 |.lss=>.ok (.b (sless a b))
 |.leq=>.ok (.b (sless a b||decide (a=b)))
 |.gtr=>.ok (.b (!(sless a b||decide (a=b))))
 |.geq=>.ok (.b (!sless a b))
 |.add=>.ob (((a.size+b.size:Nat):Int)≤9223372036854775807) (.str (a++b))
 |_=>.no
def eqOp:BinOp→Option Bool
 |.eql=>some true
 |.neq=>some false
 |_=>none
def xorB (e:Bool) (b:Bool):Bool:=match e with
 |true=>b
 |false=>!b
def eqSs:List Nat→List SV→List SV→Option Bool
 |[],[],[]=>some true
 |1::ks,.i m::r,.i n::q=>match eqSs ks r q with
   |some y=>some (decide (m=n)&&y)
   |none=>none
 |2::ks,.str m::r,.str n::q=>match eqSs ks r q with
   |some y=>some (decide (m=n)&&y)
   |none=>none
 |3::ks,.b m::r,.b n::q=>match eqSs ks r q with
   |some y=>some (decide (m=n)&&y)
   |none=>none
 |_,_,_=>none
def nilB (E:En) (e:Bool) (T:TypeId) (z:Option Bool):PR:=match E.TI T,z with
 |some ⟨.slice _,_,_,_,_,_⟩,some b=>.ok (.b (xorB e b))
 |_,_=>.no
def isBool (E:En) (T:TypeId):Bool:=match E.TI T with
 |some ⟨.bool,_,_,_,_,_⟩=>true
 |_=>false
def asSh:SV→Option Int
 |.i n=>some n
 |.w8 n=>some n.toNat
 |.w64 n=>some n.toNat
 |_=>none
def len {α:Type}:List α→Nat
 |[]=>0
 |_::r=>len r+1
def binE (E:En) (σ:St) (op:BinOp) (T:TypeId) (x y:SV):PR:=match isSh op with
 |true=>match x,asSh y with
   |.i m,some n=>shI op m n
   |.w8 m,some n=>sh8 op m n
   |.w64 m,some n=>sh64 op m n
   |_,_=>.no
 |false=>match x,y with
   |.i m,.i n=>intB op m n
   |.w8 m,.w8 n=>w8B op m n
   |.w64 m,.w64 n=>w64B op m n
   |.b p,.b q=>match isBool E T,eqOp op with
     |true,some true=>.ok (.b (decide (p=q)))
     |true,some false=>.ok (.b (!decide (p=q)))
     |_,_=>.no
   |.str a,.str b=>strB op a b
   |.agg us,.agg vs=>match eqOp op,E.TI T with
     |some e,some ⟨_,_,_,_,_,k::ks⟩=>match eqSs (k::ks) us vs with
       |some r=>.ok (.b (xorB e r))
       |none=>.no
     |_,_=>.no
   |.lst z _ _,.v (.slice none 0 0)=>match eqOp op with
     |some e=>nilB E e T z
     |none=>.no
   |.v (.slice none 0 0),.v (.slice none 0 0)=>match eqOp op with
     |some e=>nilB E e T (some true)
     |none=>.no
   |.osl i,.v (.slice none 0 0)=>match eqOp op,lk σ.heap i with
     |some e,some (.arr _ z _ _)=>nilB E e T z
     |_,_=>.no
   |_,_=>.no
@[reducible] def gt (c:Nat) (l:List (TabT c)) (k:Nat):TabT c:=l.getD k (TabZ c)
def fieldOf (E:En) (T:TypeId) (f:Nat):Option (Nat×TypeId):=match E.TI T with
 |some ⟨.strct fs,_,_,_,_,_⟩=>nth fs f
 |_=>none
def sizeE (E:En) (T:TypeId):Option Nat:=match E.TI T with
 |some i=>some i.size
 |none=>none
def elemOf (E:En) (T:TypeId):Option Nat:=match E.TI T with
 |some ⟨.slice e,_,_,_,_,_⟩=>sizeE E e
 |_=>none
inductive Kd
 |flat
 |agg (k:Nat)
 |bad
def kdOf (E:En) (T:TypeId):Kd:=match E.TI T with
 |some ⟨.strct _,k,_,_,_,_⟩=>.agg k
 |some ⟨.arr _ _,k,_,_,_,_⟩=>.agg k
 |some ⟨.iface,_,_,_,_,_⟩=>.flat
 |some _=>.flat
 |none=>.bad
section
universe u
def tk {α:Type u}:List α→Nat→List α
 |_,0=>[]
 |[],_+1=>[]
 |x::r,n+1=>x::tk r n
def dp {α:Type u}:List α→Nat→List α
 |l,0=>l
 |[],_+1=>[]
 |_::r,n+1=>dp r n
end
def cellsAt (E:En) (T:TypeId) (cs:List SV) (o:Nat):PR:=match kdOf E T with
 |.flat=>match nth cs o with
   |some s=>.ok s
   |none=>.no
 |.agg k=>match Nat.beq (len (tk (dp cs o) k)) k with
   |true=>.ok (.agg (tk (dp cs o) k))
   |false=>.no
 |.bad=>.no
def loadE (E:En) (σ:St) (T:TypeId):SV→PR
 |.loc i o=>match lk σ.heap i with
   |some (.row _ cs)=>cellsAt E T cs o
   |some (.fro _ cs)=>cellsAt E T cs o
   |some (.vec _ N c l)=>match kdOf E T,o with
     |.agg k,0=>match Nat.beq k (N*KT c)with
       |true=>.ok (.av c N l)
       |false=>.no
     |_,_=>.no
   |_=>.no
 |.fp cs o=>cellsAt E T cs o
 |.fvec c N l=>match kdOf E T with
   |.agg k=>match Nat.beq k (N*KT c)with
     |true=>.ok (.av c N l)
     |false=>.no
   |_=>.no
 |.oel i c k o=>match lk σ.heap i with
   |some (.arr _ _ c' l)=>match castL c' c l with
     |some l=>match ES c (gt c l k.toNat)with
       |some cs=>cellsAt E T cs o
       |none=>.no
     |none=>.no
   |_=>.no
 |.vel i c N k o=>match lk σ.heap i with
   |some (.vec _ N' c' l)=>match castL c' c l,Nat.beq N N' with
     |some l,true=>match ES c (gt c l k.toNat)with
       |some cs=>cellsAt E T cs o
       |none=>.no
     |_,_=>.no
   |_=>.no
 |_=>.no
def arrayOf (E:En) (T:TypeId):Option (Nat×Nat):=match E.TI T with
 |some ⟨.arr n e,_,_,_,_,_⟩=>match sizeE E e with
   |some K=>some (n,K)
   |none=>none
 |_=>none
def asIx:SV→Option Int
 |.i n=>some n
 |.w8 n=>some n.toNat
 |_=>none
def indexE (E:En) (σ:St) (T:TypeId) (x:SV) (k:Int):PR:=match x with
 |.fsl cs=>match elemOf E T with
   |some 1=>.ob (0≤k∧k<len cs) (.fp cs k.toNat)
   |_=>.no
 |.lst _ c l=>match elemOf E T with
   |some K'=>match Nat.beq (KT c) K',ES c (gt c l k.toNat)with
     |true,some cs=>.ob (0≤k∧k<l.length) (.fp cs 0)
     |_,_=>.no
   |none=>.no
 |.osl i=>match elemOf E T,lk σ.heap i with
   |some K',some (.arr _ _ c l)=>match Nat.beq (KT c) K' with
     |true=>.ob (0≤k∧k<l.length) (.oel i c k 0)
     |false=>.no
   |some K',some (.far _ c l)=>match Nat.beq (KT c) K',ES c (gt c l k.toNat)with
     |true,some cs=>.ob (0≤k∧k<l.length) (.fp cs 0)
     |_,_=>.no
   |_,_=>.no
 |.nso i=>match elemOf E T,lk σ.heap i with
   |some 1,some (.nst _ _ _ _ l _)=>.ob (0≤k∧k<l.length) (.noe i k)
   |_,_=>.no
 |.sub i c lo hi=>match elemOf E T with
   |some K'=>match Nat.beq (KT c) K' with
     |true=>.ob (0≤k∧k<hi-lo) (.oel i c (lo+k) 0)
     |false=>.no
   |_=>.no
 |.vsl i c N lo hi=>match elemOf E T with
   |some K'=>match Nat.beq (KT c) K' with
     |true=>.ob (0≤k∧k<hi-lo) (.vel i c N (lo+k) 0)
     |false=>.no
   |_=>.no
 |.loc i 0=>match arrayOf E T,lk σ.heap i with
   |some (n,K'),some (.vec _ N c _)=>match Nat.beq (KT c) K',Nat.beq n N with
     |true,true=>.ob (0≤k∧k<N) (.vel i c N k 0)
     |_,_=>.no
   |_,_=>.no
 |.fvec c N l=>match arrayOf E T with
   |some (n,K')=>match Nat.beq (KT c) K',Nat.beq n N,ES c (gt c l k.toNat)with
     |true,true,some cs=>.ob (0≤k∧k<N) (.fp cs 0)
     |_,_,_=>.no
   |_=>.no
 |_=>.no
def byteAt (s:ByteArray) (i:Int):UInt8:=(s[i.toNat]?).getD 0
def asIs:List SV→Option (List Int)
 |[]=>some []
 |.i n::r=>match asIs r with
   |some l=>some (n::l)
   |none=>none
 |_=>none
def idxE (E:En) (T:TypeId) (x:SV) (k:Int):PR:=match E.TI T,x with
 |some ⟨.str,_,_,_,_,_⟩,.str s=>.ob (0≤k∧k<s.size) (.w8 (byteAt s k))
 |some ⟨.arr n e,_,_,_,_,_⟩,.agg cs=>match asIs cs,kdOf E e,sizeE E e with
   |some l,.flat,some 1=>match Nat.beq (len l) n with
     |true=>.ob (0≤k∧k<n) (.i (l.getD k.toNat 0))
     |false=>.no
   |_,_,_=>.no
 |some ⟨.arr n e,_,_,_,_,_⟩,.av c N l=>match kdOf E e,sizeE E e,ES c (gt c l k.toNat)with
   |.flat,some 1,some [s]=>match Nat.beq n N with
     |true=>.ob (0≤k∧k<n) s
     |false=>.no
   |_,_,_=>.no
 |_,_=>.no
def lenE (E:En) (σ:St) (T:TypeId) (x:SV):PR:=match E.TI T,x with
 |some ⟨.slice _,_,_,_,_,_⟩,.lst _ c l=>.hy (l.length*BT c≤140737488355328∧l.length≤140737488355328) (.i l.length)
 |some ⟨.slice _,_,_,_,_,_⟩,.v (.slice none 0 0)=>.ok (.i 0)
 |some ⟨.slice _,_,_,_,_,_⟩,.osl i=>match lk σ.heap i with
   |some (.arr _ _ c l)=>.hy (l.length*BT c≤140737488355328∧l.length≤140737488355328) (.i l.length)
   |some (.far _ c l)=>.hy (l.length*BT c≤140737488355328∧l.length≤140737488355328) (.i l.length)
   |_=>.no
 |some ⟨.slice _,_,_,_,_,_⟩,.nso i=>match lk σ.heap i with
   |some (.nst _ _ c _ l _)=>.hy (l.length*BT c≤140737488355328∧l.length≤140737488355328) (.i l.length)
   |_=>.no
 |some ⟨.slice _,_,_,_,_,_⟩,.sub _ _ lo hi=>.ok (.i (hi-lo))
 |some ⟨.slice _,_,_,_,_,_⟩,.vsl _ _ _ lo hi=>.ok (.i (hi-lo))
 |some ⟨.slice _,_,_,_,_,_⟩,.fsl cs=>.ok (.i (len cs:Nat))
 |some ⟨.str,_,_,_,_,_⟩,.str s=>.hy ((s.size:Int)≤9223372036854775807) (.i s.size)
 |some ⟨.map _ _,_,_,_,_,_⟩,.osl i=>match lk σ.heap i with
   |some (.mp _ _ l)=>.ob ((l.length:Int)≤9223372036854775807) (.i l.length)
   |_=>.no
 |_,_=>.no
def convE (E:En) (src dst:TypeId) (x:SV):PR:=match E.TI src,E.TI dst with
 |some ⟨.int _,_,_,_,_,_⟩,some ⟨.int k,_,_,_,_,_⟩=>match x,k with
   |.i n,.i64=>.ok (.i n)
   |.i n,.u8=>.ok (.w8 (UInt8.ofInt n))
   |.i n,.u64=>.ok (.w64 (UInt64.ofInt n))
   |.i n,k=>.ok (.v (.int k (k.wrap n)))
   |.w8 n,.i64=>.ok (.i n.toNat)
   |.w8 n,.u8=>.ok (.w8 n)
   |.w8 n,.u64=>.ok (.w64 (UInt64.ofNat n.toNat))
   |.w64 n,.i64=>.ok (.i (IntKind.i64.wrap n.toNat))
   |.w64 n,.u8=>.ok (.w8 (UInt8.ofNat n.toNat))
   |.w64 n,.u64=>.ok (.w64 n)
   |.v (.int _ n),.i64=>.ok (.i (IntKind.i64.wrap n))
   |_,_=>.no
 |some ⟨.str,_,_,_,_,_⟩,some ⟨.str,_,_,_,_,_⟩=>match x with
   |.str s=>.ok (.str s)
   |_=>.no
 |_,_=>.no
def unE (op:UnOp) (x:SV):PR:=match op,x with
 |.not,.b p=>.ok (.b !p)
 |.neg,.i n=>.ar (InR n) (0-n)
 |.xor,.w64 n=>.ok (.w64 (~~~n))
 |_,_=>.no
def fieldAddrE (E:En) (T:TypeId) (x:SV) (f:Nat):PR:=match fieldOf E T f with
 |some (o',T')=>match sizeE E T' with
   |some (_+1)=>match x with
     |.loc i o=>.ok (.loc i (o+o'))
     |.fp cs o=>.ok (.fp cs (o+o'))
     |.oel i c k o=>.ok (.oel i c k (o+o'))
     |.vel i c N k o=>.ok (.vel i c N k (o+o'))
     |_=>.no
   |_=>.no
 |none=>.no
def fieldE (E:En) (T:TypeId) (x:SV) (f:Nat):PR:=match x with
 |.agg cs=>match fieldOf E T f with
   |some (o,T')=>cellsAt E T' cs o
   |none=>.no
 |_=>.no
def svs:List Value→List SV
 |[]=>[]
 |v::r=>constSV v::svs r
def cellsOf:SV→List SV
 |.agg l=>l
 |.v (.agg cs)=>svs cs.toList
 |s=>[s]
def over:List SV→Nat→List SV→List SV
 |cs,_,[]=>cs
 |[],_,_::_=>[]
 |_::r,0,n::ns=>n::over r 0 ns
 |c::r,o+1,n::ns=>c::over r o (n::ns)
def one:SV→Bool
 |.v (.agg _)=>false
 |.v (.tuple _)=>false
 |.agg _=>false
 |.tup _=>false
 |.av ..=>false
 |.un=>false
 |_=>true
def allOne:List SV→Bool
 |[]=>true
 |s::r=>match one s with
   |true=>allOne r
   |false=>false
def partsE (E:En) (fs:List (Nat×TypeId)):List (Nat×SV)→List SV→Option (List SV)
 |[],cs=>some cs
 |(f,s)::r,cs=>match nth fs f with
   |some (o,T)=>match sizeE E T with
     |some k=>match Nat.beq (len (cellsOf s)) k,Nat.ble (o+k) (len cs),allOne (cellsOf s)with
       |true,true,true=>partsE E fs r (over cs o (cellsOf s))
       |_,_,_=>none
     |none=>none
   |none=>none
def partsA (k:Nat):List (Nat×SV)→List SV→Option (List SV)
 |[],cs=>some cs
 |(f,s)::r,cs=>match Nat.beq (len (cellsOf s)) k,Nat.ble (f*k+k) (len cs),allOne (cellsOf s)with
   |true,true,true=>partsA k r (over cs (f*k) (cellsOf s))
   |_,_,_=>none
def buildE (E:En) (T:TypeId) (ps:List (Nat×SV)):PR:=match E.TI T with
 |some ⟨.strct fs,_,_,_,z,_⟩=>match partsE E fs ps (svs z.cells.toList)with
   |some cs=>.ok (.agg cs)
   |none=>.no
 |some ⟨.arr _ e,_,_,_,z,_⟩=>match sizeE E e with
   |some k=>match partsA k ps (svs z.cells.toList)with
     |some cs=>.ok (.agg cs)
     |none=>.no
   |none=>.no
 |_=>.no
def mergeB (q:Bool) (x y:SV) (kx ky:Operand):PR:=match x,y with
 |.b a,.b b=>match kx,ky with
   |_,.const (.bool false)=>.ok (.b (q&&a))
   |.const (.bool true),_=>.ok (.b (q||b))
   |_,_=>.ok (.b (bif q then a else b))
 |.i a,.i b=>.ok (.i (bif q then a else b))
 |.str a,.str b=>.ok (.str (bif q then a else b))
 |_,_=>.no
def pickE (E:En) (σ:St) (π:Path) (c x y:Operand):PR:=match c with
 |.tmp t=>match lk σ.kn t with
   |some true=>match σ.ev E π x with
     |some s=>.ok s
     |none=>.no
   |some false=>match σ.ev E π y with
     |some s=>.ok s
     |none=>.no
   |none=>match σ.slot π t,σ.ev E (π++[(t,true)]) x,σ.ev E (π++[(t,false)]) y with
     |some (.b q),some sx,some sy=>mergeB q sx sy x y
     |_,_,_=>.no
 |_=>.no
def elemC (E:En) (T:TypeId):Option (TypeId×TyI):=match E.TI T with
 |some ⟨.slice e,_,_,_,_,_⟩=>match E.TI e with
   |some i=>match Nat.beq (KT i.code) i.size,Nat.beq (BT i.code) i.bytes with
     |true,true=>some (e,i)
     |_,_=>none
   |none=>none
 |_=>none
def viewL (σ:St) (c:Nat):SV→Option (List (TabT c))
 |.lst _ c' l=>castL c' c l
 |.v (.slice none 0 0)=>some []
 |.osl i=>match lk σ.heap i with
   |some (.arr _ _ c' l)=>castL c' c l
   |some (.far _ c' l)=>castL c' c l
   |_=>none
 |.sub i c0 lo hi=>match Nat.beq c0 c with
   |true=>match lk σ.heap i with
     |some (.arr _ _ c' l)=>match castL c' c l with
       |some l=>some ((l.drop lo.toNat).take (hi-lo).toNat)
       |none=>none
     |some (.far _ c' l)=>match castL c' c l with
       |some l=>some ((l.drop lo.toNat).take (hi-lo).toNat)
       |none=>none
     |_=>none
   |false=>none
 |.vsl i c0 N lo hi=>match Nat.beq c0 c with
   |true=>match lk σ.heap i with
     |some (.vec _ N' c' l)=>match castL c' c l,Nat.beq N N' with
       |some l,true=>some ((l.drop lo.toNat).take (hi-lo).toNat)
       |_,_=>none
     |_=>none
   |false=>none
 |_=>none
def ofBytes (l:List UInt8):ByteArray:=⟨l.toArray⟩
def mgetT {k v:Nat} (l:List (TabT k×TabT v)) (x:TabT k):Option (TabT v):=match l with
 |[]=>none
 |(a,u)::r=>if x=a then some u else mgetT r x
def mputT {k v:Nat} (l:List (TabT k×TabT v)) (x:TabT k) (y:TabT v):List (TabT k×TabT v):=match l with
 |[]=>[(x,y)]
 |(a,u)::r=>if x=a then(x,y)::r else(a,u)::mputT r x y
def codeOf (E:En) (T:TypeId):Option Nat:=match E.TI T with
 |some i=>some i.code
 |none=>none
def bndE (E:En) (σ:St) (x:Option Operand) (n:Int):Option Int:=match x with
 |none=>some n
 |some x=>match σ.ev E [] x with
   |some s=>asIx s
   |none=>none
def rngOK (lo hi n:Int):Prop:=0≤lo∧lo≤hi∧hi≤n
def sliceE (E:En) (σ:St) (T:TypeId) (x:SV) (lo hi:Option Operand):PR:=match E.TI T,x with
 |some ⟨.str,_,_,_,_,_⟩,.str s=>match bndE E σ lo 0,bndE E σ hi s.size with
   |some a,some b=>.hb ((s.size:Int)≤9223372036854775807) (rngOK a b s.size) (.str (s.extract a.toNat b.toNat))
   |_,_=>.no
 |some ⟨.slice _,_,_,_,_,_⟩,.lst _ c l=>match elemC E T with
   |some (_,i)=>match Nat.beq i.code c,bndE E σ lo 0,bndE E σ hi l.length with
     |true,some a,some b=>.hb (l.length*BT c≤140737488355328∧l.length≤140737488355328) (rngOK a b l.length) (.lst none c ((l.drop a.toNat).take (b-a).toNat))
     |_,_,_=>.no
   |none=>.no
 |some ⟨.slice _,_,_,_,_,_⟩,.osl j=>match elemC E T,lk σ.heap j with
   |some (_,i),some (.arr _ _ c l)=>match Nat.beq i.code c,bndE E σ lo 0,bndE E σ hi l.length with
     |true,some a,some b=>.hb (l.length*BT c≤140737488355328∧l.length≤140737488355328) (rngOK a b l.length) (.sub j c a b)
     |_,_,_=>.no
   |_,_=>.no
 |some ⟨.arr n e,_,_,_,_,_⟩,.loc j 0=>match lk σ.heap j with
   |some (.vec _ N c _)=>match sizeE E e with
     |some k=>match Nat.beq k (KT c),Nat.beq n N,bndE E σ lo 0,bndE E σ hi n with
       |true,true,some a,some b=>.ob (rngOK a b N∧N≤140737488355328) (.vsl j c N a b)
       |_,_,_,_=>.no
     |none=>.no
   |_=>.no
 |_,_=>.no
def isBytes (E:En) (T:TypeId):Bool:=match E.TI T with
 |some ⟨.slice e,_,_,_,_,_⟩=>match E.TI e with
   |some ⟨.int .u8,_,_,_,_,_⟩=>true
   |_=>false
 |_=>false
def isStr (E:En) (T:TypeId):Bool:=match E.TI T with
 |some ⟨.str,_,_,_,_,_⟩=>true
 |_=>false
def bstrE (σ:St) (x:SV):PR:=match viewL σ 3 x with
 |some l=>.ob (l.length≤140737488355328) (.str (ofBytes l))
 |none=>.no
def zSV:Value→SV
 |.agg cs=>.agg (svs cs.toList)
 |v=>constSV v
def zeroV (E:En) (T:TypeId) (c:Nat):Option (TabT c):=match E.TI T with
 |some i=>DV c (zSV i.z)
 |none=>none
def lookE (E:En) (σ:St) (T:TypeId) (x k:SV) (ok:Bool):PR:=match E.TI T,x with
 |some ⟨.map kt vt,_,_,_,_,_⟩,.osl i=>match lk σ.heap i,E.TI vt with
   |some (.mp kc vc l),some iv=>match E.KO kt kc,gnd kc,DV kc k,zeroV E vt vc,gnd vc with
     |true,true,some x,some z,true=>match ok with
       |true=>.ok (.tup [VS vc ((mgetT l x).getD z),.b (mgetT l x).isSome])
       |false=>.ok (VS vc ((mgetT l x).getD z))
     |_,_,_,_,_=>.no
   |_,_=>.no
 |_,_=>.no
def esL (c:Nat):List (TabT c)→Option (List SV)
 |[]=>some []
 |x::r=>match ES c x,esL c r with
   |some a,some b=>some (a++b)
   |_,_=>none
def unav:SV→SV
 |.av c N l=>match esL c l with
   |some cs=>.agg cs
   |none=>.av c N l
 |s=>s
def evP (E:En) (σ:St) (π:Path) (o:Op):PR:=match o with
 |.move x=>match σ.ev E π x with
   |some s=>.ok s
   |none=>.no
 |.assign x=>match σ.ev E π x with
   |some s=>.ok s
   |none=>.no
 |.nilCheck x=>match σ.ev E π x with
   |some (.loc i o)=>.ok (.loc i o)
   |some (.fp cs o)=>.ok (.fp cs o)
   |some (.fvec c N l)=>.ok (.fvec c N l)
   |some (.oel i c k o)=>.ok (.oel i c k o)
   |some (.vel i c N k o)=>.ok (.vel i c N k o)
   |some (.clo f a b)=>.ok (.clo f a b)
   |some (.ifc t x)=>.ok (.ifc t x)
   |_=>.no
 |.pick c x y=>pickE E σ π c x y
 |.binOp op T x y _=>match σ.ev E π x,σ.ev E π y with
   |some a,some b=>binE E σ op T a b
   |_,_=>.no
 |.unOp op _ x=>match σ.ev E π x with
   |some a=>unE op a
   |none=>.no
 |.convert s d x=>match σ.ev E π x with
   |some a=>match isBytes E s,isStr E d with
     |true,true=>bstrE σ a
     |_,_=>convE E s d a
   |none=>.no
 |.slice T x lo hi none=>match σ.ev E π x with
   |some a=>sliceE E σ T a lo hi
   |_=>.no
 |.lookup T x k ok=>match σ.ev E π x,σ.ev E π k with
   |some a,some b=>lookE E σ T a (unav b) ok
   |_,_=>.no
 |.fieldAddr T x f=>match σ.ev E π x with
   |some a=>fieldAddrE E T a f
   |none=>.no
 |.field T x f=>match σ.ev E π x with
   |some a=>fieldE E T a f
   |none=>.no
 |.indexAddr T x y=>match σ.ev E π x,σ.ev E π y with
   |some a,some b=>match asIx b with
     |some k=>indexE E σ T a k
     |none=>.no
   |_,_=>.no
 |.index T x y=>match σ.ev E π x,σ.ev E π y with
   |some a,some b=>match asIx b with
     |some k=>idxE E T a k
     |none=>.no
   |_,_=>.no
 |.load T x=>match σ.ev E π x with
   |some a=>loadE E σ T a
   |none=>.no
 |.extract x i=>match σ.ev E π x with
   |some (.tup l)=>match nth l i with
     |some s=>.ok s
     |none=>.no
   |_=>.no
 |.build T ps=>match σ.pevs E π ps.toList with
   |some l=>buildE E T l
   |none=>.no
 |.makeFunc (.func f) a b=>match σ.evs E π a.toList,σ.evs E π b.toList with
   |some x,some y=>.ok (.clo f x y)
   |_,_=>.no
 |.makeInterface T x=>match E.TI T,σ.ev E π x with
   |some ⟨.iface,_,_,_,_,_⟩,_=>.no
   |some _,some s=>.ok (.ifc T s)
   |_,_=>.no
 |.typeAssert x _ t false=>match E.TI t,σ.ev E π x with
   |some ⟨.iface,_,_,_,_,_⟩,_=>.no
   |some _,some (.ifc t' s)=>match Nat.beq t' t with
     |true=>.ok s
     |false=>.no
   |_,_=>.no
 |.call ⟨.builtin .len,xs,ts⟩=>match xs.toList,ts.toList with
   |[x],[T]=>match σ.ev E π x with
     |some s=>lenE E σ T s
     |none=>.no
   |_,_=>.no
 |.call ⟨.builtin .min,xs,_⟩=>match xs.toList with
   |[x,y]=>match σ.ev E π x,σ.ev E π y with
     |some (.i m),some (.i n)=>.ok (.i (min m n))
     |_,_=>.no
   |_=>.no
 |.call ⟨.builtin .max,xs,_⟩=>match xs.toList with
   |[x,y]=>match σ.ev E π x,σ.ev E π y with
     |some (.i m),some (.i n)=>.ok (.i (max m n))
     |_,_=>.no
   |_=>.no
 |_=>.no
def looks (E:En):Op→Bool
 |.load ..=>true
 |.lookup ..=>true
 |.convert s _ _=>isBytes E s
 |.call ⟨.builtin .len,_,_⟩=>true
 |_=>false
end Go.SX
namespace Go.SX
open Go.XK Go.RowKit
def PRok (r:PR) (Q:SV→Prop):Prop:=match r with
 |.ok s=>Q s
 |.ob p s=>p→Q s
 |.hy p s=>p∧Q s
 |.hb h p s=>h∧(p→Q s)
 |.ar h x=>h∧Q (.i (IntKind.i64.wrap x))
 |.ap h p x=>h∧(p→Q (.i (IntKind.i64.wrap x)))
 |.no=>True
def Sl (P:Program) (a:Act) (o:Oper) (v:Value):Prop:=∀ w,silUpon v w ((execOp a.eval o).run P w)
def PureV (E:En) (m:Mm) (ids:List Value) (a:Act) (o:Oper) (s:SV):Prop :=
 ∃ v,Den m ids s v∧(looks E o.op=false→Sl E.P a o v)∧∀ w,Ext m.w w→exUpon E.P v w ((execOp a.eval o).run E.P w)
theorem exu {P:Program} {v:Value} {w:World} {r:Result Next} (h:silUpon v w r):exUpon P v w r:=by
 cases r with
 |ok n w' =>
   cases n<;>simp only [silUpon]at h
   case value u=>obtain⟨rfl,rfl⟩:=h;exact⟨rfl,Ext.refl _⟩
 |halt x w'=>simp only [silUpon]at h
theorem PureV.of {E:En} {m:Mm} {ids:List Value} {a:Act} {o:Oper} {s:SV} {v:Value} (hd:Den m ids s v) (h:Sl E.P a o v):PureV E m ids a o s:=⟨v,hd,fun _=>h,fun w _=>exu (h w)⟩
def envA (a:Act):List (Nat×Value):=(List.range a.tmps.size).map fun t=>(t,a.tmps.getD t undef)
theorem look_envA {a:Act} {t:Nat} (ht:t<a.tmps.size):XK.look (envA a) t=some (a.tmps.getD t undef):=by
 have key:∀ (l:List Nat),t∈l→XK.look (l.map fun t=>(t,a.tmps.getD t undef)) t=some (a.tmps.getD t undef):=by
   intro l
   induction l with
   |nil=>intro h;cases h
   |cons k r ih =>
     intro h;simp only [List.map_cons,XK.look]
     by_cases hk:k=t
     ·subst hk;simp
     ·have hb:Nat.beq k t=false:=by
        cases hb:Nat.beq k t with
        |false=>rfl
        |true=>exact absurd (Nat.eq_of_beq_eq_true hb) hk
      simp only [hb,cond_false];rcases List.mem_cons.1 h with rfl|h
      ·exact absurd rfl hk
      ·exact ih h
 exact key _ (List.mem_range.2 ht)
theorem envA_lt {a:Act} {t:Nat} {v:Value} (h:XK.look (envA a) t=some v):a.tmps.getD t undef=v:=by
 have key:∀ (l:List Nat),XK.look (l.map fun t=>(t,a.tmps.getD t undef)) t=some v→a.tmps.getD t undef=v:=by
   intro l
   induction l with
   |nil=>intro h;cases h
   |cons k r ih =>
     intro h;simp only [List.map_cons,XK.look]at h
     cases hb:Nat.beq k t with
     |true =>
       have:=Nat.eq_of_beq_eq_true hb;subst this;simpa [hb] using h
     |false =>
       simp only [hb,cond_false]at h;exact ih h
 exact key _ h
theorem okx_envA (a:Act):OKx a (envA a) a.tmps.size:=⟨a.defers,rfl,rfl,fun _ _ h=>envA_lt h⟩
theorem sl_of {P:Program} {a:Act} {o:Oper} {v:Value} (h:Sil P (envA a) o v):Sl P a o v:=fun w=>h a _ (okx_envA a) w
section
variable {E:En} {C:Cx} {σ:St} {m:Mm} {ids:List Value} {a:Act} {π:Path}
theorem red_spec:∀ (ρ:Path),(∀ s b,lk σ.kn s=some b→a.tmps.getD s undef=.bool b)→match red σ.kn ρ with
   |.dead=>¬ Holds a ρ
   |.path ρ'=>Holds a ρ↔Holds a ρ'
 |[],_=>by simp [red]
 |(s,b)::r,hk=>by
   have ih:=red_spec r hk;simp only [red]
   cases hl:lk σ.kn s with
   |none =>
     simp only
     cases hr:red σ.kn r with
     |dead =>
       rw [hr]at ih;exact fun h=>ih fun g hg=>h g (List.mem_cons_of_mem _ hg)
     |path ρ' =>
       rw [hr]at ih;simp only at ih ⊢;constructor
       ·intro h g hg;rcases List.mem_cons.1 hg with rfl|hg
        ·exact h _ (List.mem_cons_self ..)
        ·exact ih.1 (fun g hg=>h g (List.mem_cons_of_mem _ hg)) g hg
       ·intro h g hg;rcases List.mem_cons.1 hg with rfl|hg
        ·exact h _ (List.mem_cons_self ..)
        ·exact ih.2 (fun g hg=>h g (List.mem_cons_of_mem _ hg)) g hg
   |some c =>
     have hc:=hk s c hl
     have same:∀ b,c=b→(Holds a ((s,b)::r)↔Holds a r):=fun b e=>⟨fun h g hg=>h g (List.mem_cons_of_mem _ hg),fun h g hg=>by
       rcases List.mem_cons.1 hg with rfl|hg
       ·rw [hc,e]
       ·exact h g hg⟩
     cases b<;>cases c<;>simp only
     ·cases hr:red σ.kn r with
      |dead=>rw [hr]at ih;exact fun h=>ih ((same false rfl).1 h)
      |path ρ'=>rw [hr]at ih;exact(same false rfl).trans ih
     ·intro h;have:=h (s,false) (List.mem_cons_self ..);simp only at this;rw [hc]at this;cases this
     ·intro h;have:=h (s,true) (List.mem_cons_self ..);simp only at this;rw [hc]at this;cases this
     ·cases hr:red σ.kn r with
      |dead=>rw [hr]at ih;exact fun h=>ih ((same true rfl).1 h)
      |path ρ'=>rw [hr]at ih;exact(same true rfl).trans ih
theorem isPre_spec:∀ {ρ π:Path},isPre ρ π=true→Holds a π→Holds a ρ
 |[],_,_,_=>fun g hg=>by cases hg
 |_::_,[],h,_=>by cases h
 |(s,b)::r,(t,c)::q,h,hh=>by
   simp only [isPre]at h;split at h
   ·rename_i hst;have hst':=Nat.eq_of_beq_eq_true hst;subst hst';have hq:Holds a q:=fun g hg=>hh g (List.mem_cons_of_mem _ hg)
    have hc:=hh (s,c) (List.mem_cons_self ..);cases b<;>cases c<;>simp only at h<;>first|(cases h;done)|skip
    ·intro g hg;rcases List.mem_cons.1 hg with rfl|hg
     ·exact hc
     ·exact isPre_spec h hq g hg
    ·intro g hg;rcases List.mem_cons.1 hg with rfl|hg
     ·exact hc
     ·exact isPre_spec h hq g hg
   ·cases h
theorem SatF.slot (h:SatF C σ m ids a) (hh:Holds a π) {t:Nat} {s:SV} (hs:σ.slot π t=some s):t<a.tmps.size∧Den m ids s (a.tmps.getD t undef):=by
 unfold St.slot at hs;rw [h.size]
 cases hg:lk σ.gen t with
 |none =>
   rw [hg]at hs;exact h.env t s hs
 |some ρx =>
   obtain⟨ρ,x⟩:=ρx;rw [hg]at hs;simp only at hs;have hr:=red_spec (a:=a) (σ:=σ) ρ h.kn
   cases hq:red σ.kn ρ with
   |dead=>rw [hq]at hs;cases hs
   |path ρ' =>
     rw [hq]at hs hr;simp only at hs hr
     cases hp:isPre ρ' π with
     |false=>rw [hp]at hs;cases hs
     |true =>
       rw [hp]at hs;simp only [Option.some.injEq]at hs;subst hs;exact⟨(h.gen t ρ x hg).1,(h.gen t ρ x hg).2.1 (hr.2 (isPre_spec hp hh))⟩
theorem constSV_den (v:Value):Den m ids (constSV v) v:=by
 have wd:∀ (k:IntKind) (n j:Nat),n=j→Value.int k (Int.ofNat n)=Value.int k (j:Int):=fun k n j e=>by subst e;rfl
 unfold constSV;split
 ·rename_i s;split
  ·rename_i h;rw [Den];refine⟨rfl,?_⟩;have:s.size≤1000000:=Nat.le_of_ble_eq_true h;simp only [STRMAX];omega
  ·rw [Den]
 ·rename_i n;split
  ·rename_i h;rw [Den];exact⟨rfl,in64_ok h⟩
  ·rw [Den]
 ·rename_i n;split
  ·rename_i h;have:n+1≤256:=Nat.le_of_ble_eq_true h;rw [Den];exact wd _ _ _ (by rw [UInt8.toNat_ofNat'];omega)
  ·rw [Den]
 ·rename_i n;split
  ·rename_i h;have:n+1≤4294967296:=Nat.le_of_ble_eq_true h;rw [Den];exact wd _ _ _ (by rw [UInt32.toNat_ofNat'];omega)
  ·rw [Den]
 ·rename_i n;split
  ·rename_i h;have:n+1≤18446744073709551616:=Nat.le_of_ble_eq_true h;rw [Den];exact wd _ _ _ (by rw [UInt64.toNat_ofNat'];omega)
  ·rw [Den]
 ·rw [Den]
 ·rw [Den]
theorem SatF.ev (h:SatF C σ m ids a) (hG:Glob E.G m) (hh:Holds a π) {x:Operand} {s:SV} (hs:σ.ev E π x=some s):∃ v,XK.ev (envA a) x=some v∧a.eval x=v∧Den m ids s v:=by
 cases x with
 |tmp t =>
   obtain⟨h1,h2⟩:=h.slot hh hs;exact⟨_,look_envA h1,rfl,h2⟩
 |const v =>
   simp only [St.ev,Option.some.injEq]at hs;subst hs;exact⟨v,rfl,rfl,constSV_den v⟩
 |func f =>
   simp only [St.ev,Option.some.injEq]at hs;subst hs;refine⟨_,rfl,rfl,?_⟩;rw [Den];exact⟨[],[],rfl,by rw [DenL],by rw [DenL]⟩
 |global g =>
   refine⟨_,rfl,rfl,?_⟩;have:=Den.app ids s (hG g s hs);simpa using this
theorem SatF.evs (h:SatF C σ m ids a) (hG:Glob E.G m) (hh:Holds a π):∀ {xs:List Operand} {l:List SV},σ.evs E π xs=some l→∃ vs,XK.evs (envA a) xs=some vs∧DenL m ids l vs
 |[],l,hs=>by
   simp only [St.evs,Option.some.injEq]at hs;subst hs;exact⟨[],rfl,by rw [DenL]⟩
 |x::r,l,hs=>by
   simp only [St.evs]at hs;split at hs
   ·rename_i s l' h1 h2;simp only [Option.some.injEq]at hs;subst hs;obtain⟨v,h3,_,h4⟩:=h.ev hG hh h1;obtain⟨vs,h5,h6⟩:=h.evs hG hh h2;exact⟨v::vs,evs_cons h3 h5,by rw [DenL];exact⟨v,vs,rfl,h4,h6⟩⟩
   ·cases hs
def DenN (m:Mm) (ids:List Value):List (Nat×SV)→List (Nat×Value)→Prop
 |[],vs=>vs=[]
 |(i,s)::r,vs=>∃ v vs',vs=(i,v)::vs'∧Den m ids s v∧DenN m ids r vs'
theorem SatF.pevs (h:SatF C σ m ids a) (hG:Glob E.G m) (hh:Holds a π):∀ {xs:List (Nat×Operand)} {l:List (Nat×SV)},σ.pevs E π xs=some l→∃ vs,XK.pevs (envA a) xs=some vs∧DenN m ids l vs
 |[],l,hs=>by
   simp only [St.pevs,Option.some.injEq]at hs;subst hs;exact⟨[],rfl,rfl⟩
 |(i,x)::r,l,hs=>by
   simp only [St.pevs]at hs;split at hs
   ·rename_i s l' h1 h2;simp only [Option.some.injEq]at hs;subst hs;obtain⟨v,h3,_,h4⟩:=h.ev hG hh h1;obtain⟨vs,h5,h6⟩:=h.pevs hG hh h2;exact⟨(i,v)::vs,pevs_cons h3 h5,v,vs,rfl,h4,h6⟩
   ·cases hs
end
end Go.SX
