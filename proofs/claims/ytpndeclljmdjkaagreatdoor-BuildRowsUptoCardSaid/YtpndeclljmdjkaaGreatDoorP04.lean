/- A part of the proof (texts SG, SH). -/
import Derived.Laws.BytesString
import Derived.Test.YtpndeclljmdjkaaGreatDoorP03
set_option linter.all false
set_option maxRecDepth 100000
namespace Go.SX
open List renaming getElem?_eq_getElem -> bZ
open Nat renaming eq_of_beq_eq_true -> dI
open Go.XK Go.RowKit
section
variable {E:En} {C:Cx} {σ:St} {m:Mm} {ids aO:List Value} {a:Act} {π:Path} {d:Option Tmp} {ty:TypeId} {pos:String} {af:Array Edge} {g:Option (Nat×Bool)}
theorem JU {z:Option Bool} {c:Nat} {l:Li c} {y:Value} (h:Den m ids (.aW z c l) y):∃ b cp,y=.slice b l.length cp/\AR z y:=by
 rw [Den]at h;exact h.shape
theorem DY {T:TypeId} (h:isBool E T=true):E.P.underlying T=some .bool:=by
 unfold isBool at h;split at h
 ·rename_i hT;exact fK hT
 ·cases h
theorem Dp {s:SV} {u:Value} {n:Int} (h:asSh s=some n) (hs:Den m ids s u):∃ k,u=.int k n/\lC n\/u=.int k n/\(k=.u8\/k=.u64):=by
 unfold asSh at h;split at h
 ·cases h;rw [Den]at hs;exact⟨.i64,.inl hs⟩
 ·cases h;rw [Den]at hs;exact⟨.u8,.inr ⟨hs,.inl rfl⟩⟩
 ·cases h;rw [Den]at hs;exact⟨.u64,.inr ⟨hs,.inr rfl⟩⟩
 ·cases h
theorem Sn {op:BinOp} {T T':TypeId} {x y:Operand} {k':IntKind} {i j:Int} (hx:XK.ev (dO a) x=some (.int .i64 i)) (hy:XK.ev (dO a) y=some (.int k' j)) (hi:lC i) :
   iR (shI op i j) (iM E m ids a ⟨d,.binOp op T x y T',ty,pos,af,g⟩):=by
 have e1:=(aR a).ev hx;have e2:=(aR a).ev hy;cases op<;>try exact True.intro
 ·refine⟨hi,fun h0=>?_⟩
  have h0':¬ j<0:=by omega
  refine .of (vH _) fun w=>?_
  simp [execOp,e1,e2,eqGuard,binOp,Op.shift,h0',bf,IntKind.bits]
 ·intro h0;have h0':¬ j<0:=by omega
  refine .of (nC (TU hi _)) fun w=>?_
  simp [execOp,e1,e2,eqGuard,binOp,Op.shift,h0',bf,IntKind.bits]
theorem binE_ok (hS:Sat C σ m ids a) {op:BinOp} {T T':TypeId} {x y:Operand} {s t:SV} {u v:Value} (hx:XK.ev (dO a) x=some u) (hy:XK.ev (dO a) y=some v) (hs:Den m ids s u) (ht:Den m ids t v) :
   iR (binE E σ op T s t) (iM E m ids a ⟨d,.binOp op T x y T',ty,pos,af,g⟩):=by
 unfold binE;split
 ·split
  ·rename_i i n hsh;rw [Den]at hs;obtain⟨rfl,hi⟩:=hs;obtain⟨k,⟨rfl,_⟩|⟨rfl,_⟩⟩:=Dp hsh ht
   ·exact Sn hx hy hi
   ·exact Sn hx hy hi
  ·rename_i i n hsh;rw [Den]at hs;subst hs;obtain⟨k,⟨rfl,_⟩|⟨rfl,_⟩⟩:=Dp hsh ht
   ·exact XV hx hy
   ·exact XV hx hy
  ·rename_i i n hsh;rw [Den]at hs;subst hs;obtain⟨k,⟨rfl,_⟩|⟨rfl,_⟩⟩:=Dp hsh ht
   ·exact Sq hx hy
   ·exact Sq hx hy
  ·exact True.intro
 ·split
  ·rw [Den]at hs ht;obtain⟨rfl,hi⟩:=hs;obtain⟨rfl,hj⟩:=ht;exact intB_ok hx hy hi hj
  ·rw [Den]at hs ht;subst hs;subst ht;exact w8B_ok hx hy
  ·rw [Den]at hs ht;subst hs;subst ht;exact w64B_ok hx hy
  ·rename_i p q;rw [Den]at hs ht;subst hs;subst ht;split
   ·rename_i hb he;have hu:=DY hb;cases op<;>simp only [Bj]at he<;>cases he;have h:decide (p=q)=(p==q):=by cases p<;>cases q<;>rfl
    exact h ▸ .of (pW _) (dx (gG.beql hu hx hy))
   ·rename_i hb he;have hu:=DY hb;cases op<;>simp only [Bj]at he<;>cases he;have h:(!decide (p=q))=(p != q):=by cases p<;>cases q<;>rfl
    exact h ▸ .of (pW _) (dx (gG.bneq hu hx hy))
   ·exact True.intro
  ·rw [Den]at hs ht;rw [hs.1]at hx;rw [ht.1]at hy;exact strB_ok hx hy
  ·rename_i us vs;split
   ·rename_i e _ _ _ _ _ k ks he hT;split
    ·rename_i r hr;rw [Den]at hs ht;obtain⟨us',rfl,h1⟩:=hs;obtain⟨vs',rfl,h2⟩:=ht;have hv:=V3 hr h1 h2;obtain⟨q1,q2⟩:=(E.hT T _ hT).eq (by simp) us' vs' r hv
     have e1:=(aR a).ev hx;have e2:=(aR a).ev hy;cases op<;>simp only [Bj]at he<;>cases he
     ·refine .of (pW _) fun w=>?_
      simp only [execOp,e1,e2];rw [Sem.run_bind,q1 x y w];exact⟨rfl,rfl⟩
     ·refine .of (pW _) fun w=>?_
      simp only [execOp,e1,e2];rw [Sem.run_bind,q2 x y w];exact⟨rfl,rfl⟩
    ·exact True.intro
   ·exact True.intro
  ·rename_i z _ _;split
   ·rename_i e he;obtain⟨b,c,rfl,hz⟩:=JU hs;cases oM ht;exact Es he hx hy hz
   ·exact True.intro
  ·split
   ·rename_i e he;cases oM hs;cases oM ht;exact Es he hx hy rfl
   ·exact True.intro
  ·rename_i i;cases oM ht;rw [Den]at hs;split
   ·rename_i e _ z _ _ he hl;obtain⟨v',bC,h1,h2,_,h4,_⟩:=hS.heap.sat i _ hl;rw [hs.1]at h1;cases h1;obtain⟨b,c,rfl,_⟩:=h2.reads.len;exact Es he hx hy h4
   ·exact True.intro
  ·exact True.intro
theorem Bf {T T':TypeId} {f o:Nat} (h:EH E T f=some (o,T')):∃ fs g,E.P.underlying T=some (.struct fs)/\fs[f]?=some g/\g.offset=o/\g.type=T':=by
 unfold EH at h;split at h
 ·rename_i fs _ _ _ _ _ hT;obtain⟨F,h1,rfl,_⟩:=fK hT;rw [pE,List.getElem?_map,Option.map_eq_some_iff]at h;obtain⟨g,hg,e⟩:=h;rw [Prod.mk.injEq]at e;exact⟨F,g,h1,by rw [<- Array.getElem?_toList];exact hg,e.1,e.2⟩
 ·cases h
theorem iN {T:TypeId} {i:Jj} (h:E.TI T=some i):Inf E.P T i.z i.size i.bytes:=(E.hT T i h).info
theorem gY {T:TypeId} {k:Nat} (h:nO E T=some k):∃ z b,Inf E.P T z k b:=by
 unfold nO at h;split at h
 ·rename_i i hT;cases h;exact⟨_,_,iN hT⟩
 ·cases h
theorem kE {T:TypeId} {k:Nat} (h:elemOf E T=some k):∃ e z b,E.P.underlying T=some (.slice e)/\Inf E.P e z k b:=by
 unfold elemOf at h;split at h
 ·rename_i e _ _ _ _ _ hT;obtain⟨z,b,h1⟩:=gY h;exact⟨e,z,b,fK hT,h1⟩
 ·cases h
theorem Bt {T:TypeId} {n K:Nat} (h:arrayOf E T=some (n,K)):∃ e z b,E.P.underlying T=some (.array n e)/\Inf E.P e z K b:=by
 unfold arrayOf at h;split at h
 ·rename_i n' e _ _ _ _ _ hT;split at h
  ·rename_i K' hr;cases h;obtain⟨z,b,h1⟩:=gY hr;exact⟨e,z,b,fK hT,h1⟩
  ·cases h
 ·cases h
theorem Ew {T:TypeId} (h:zP E T=.flat):Flat E.P T:=by
 unfold zP at h;unfold Flat;split at h
 ·cases h
 ·cases h
 ·rename_i hT;obtain⟨ms,hu⟩:∃ ms,E.P.underlying T=some (.interface ms):=fK hT;rw [hu]
 ·rename_i i h1 h2 h3 hT;have hk:=fK hT;cases hkn:i.kn<;>rw [hkn]at hk<;>simp only [Jp]at hk
  case bool=>rw [hk]
  case int=>rw [hk]
  case str=>rw [hk]
  case slice=>rw [hk]
  case arr n e=>cases i;cases hkn;exact absurd rfl (h2 _ _ _ _ _ _ _)
  case aV fs=>cases i;cases hkn;exact absurd rfl (h1 _ _ _ _ _ _)
  case map=>rw [hk]
  case iface=>obtain⟨ms,hu⟩:=hk;rw [hu]
  case Ja =>
    cases hu:E.P.underlying T with
    |none=>rw [hu]at hk;cases hk
    |some D=>rw [hu]at hk;cases D<;>first|rfl|cases hk
 ·cases h
theorem CU {T:TypeId} {k:Nat} (h:zP E T=.agg k):RG E.P T k:=by
 unfold zP at h;unfold RG;split at h
 ·rename_i hT;cases h;obtain⟨F,h1,_⟩:=fK hT;have hi:=iN hT;obtain⟨inf,h2,_,h3,_⟩:=hi.ex;rw [h1];simp [h2,h3]
 ·rename_i hT;cases h;have h1:E.P.underlying T=some (.array _ _):=fK hT;have hi:=iN hT;obtain⟨inf,h2,_,h3,_⟩:=hi.ex;rw [h1];simp [h2,h3]
 ·cases h
 ·cases h
 ·cases h
theorem qX {cs:List SV} {us:List Value} {b q o:Nat} {T:TypeId} {x:Operand} (hc:aC m ids cs us) (hat:At m.w b q us) (hx:XK.ev (dO a) x=some (.pointer (some ⟨b,q+o,none⟩))) :
   iR (lq E T cs o) (fun s=>∃ v,Den m ids s v/\∀ w,Ext m.w w->kD E.P v w ((execOp a.eval ⟨d,.load T x,ty,pos,af,g⟩).run E.P w)):=by
 unfold lq
 cases hk:zP E T with
 |bad=>exact True.intro
 |flat =>
   simp only
   cases hn:nth cs o with
   |none=>exact True.intro
   |some s =>
     rw [pE]at hn;obtain⟨u,h1,h2⟩:=hc.get hn;refine⟨u,h2,fun w hw=>M6.load (wc:=m.w) (Ew hk) hx (hat o u h1) a _ (aR a) w hw⟩
 |agg k =>
   simp only;split
   ·rename_i hl
    have hl':(us.drop o |>.take k).length=k:=by
      have h1:=dI hl;rw [len_eq,Jy,Kq]at h1;have:=(aC.take k (aC.drop o hc)).length;rw [this,h1]
    have hd:=aC.take k (aC.drop o hc);rw [Jy,Kq];refine⟨.agg ((us.drop o).take k).toArray,by rw [Den];exact⟨_,rfl,hd⟩,fun w hw=>?_⟩
    refine M6.Mq (wc:=m.w) (by rw [hl'];exact CU hk) hx ?_ a _ (aR a) w hw
    intro j v hj;rw [List.getElem?_take]at hj;split at hj
    ·rw [List.getElem?_drop]at hj;rw [Nat.add_assoc];exact hat _ _ hj
    ·cases hj
   ·exact True.intro
theorem uQ {T:TypeId} (h:zP E T=.flat) {us:List Value} {o:Nat} {u:Value} (hu:us[o]?=some u) (w:World):(Go.part T us.toArray o).run E.P w=.ok u w:=by
 have h':=Ew h;unfold Flat at h'
 have hagg:(isAgg T).run E.P w=.ok false w:=by
   cases hu:E.P.underlying T with
   |none=>rw [hu]at h';cases h'
   |some D =>
     rw [hu]at h';cases D<;>first|(cases h';done)|simp [isAgg,run_underlying hu]
 simp [Go.part,hagg,hu]
theorem Oo {T:TypeId} {k:Nat} (h:zP E T=.agg k) {us:List Value} {o:Nat} (w:World):(Go.part T us.toArray o).run E.P w=.ok (.agg ((us.drop o).take k).toArray) w:=by
 have ht:=CU h;unfold RG at ht
 have hagg:(isAgg T).run E.P w=.ok true w/\(sizeOf T).run E.P w=.ok k w:=by
   cases hu:E.P.underlying T with
   |none=>rw [hu]at ht;cases ht
   |some D =>
     rw [hu]at ht
     cases hi:E.P.info? T with
     |none=>rw [hi]at ht;cases D<;>cases ht
     |some i=>rw [hi]at ht;cases D<;>first|(cases ht;done)|(simp at ht;simp [isAgg,run_underlying hu,sizeOf,typeInfo,hi,ht])
 simp only [Go.part,Sem.run_bind,hagg.1,hagg.2,Result.andThen_ok,if_true,Sem.run_pure]
 congr 2
 apply Array.ext';simp [List.extract_eq_take_drop]
theorem Rk {cs:List SV} {us:List Value} {o:Nat} {T:TypeId} (hc:aC m ids cs us):iR (lq E T cs o) (fun s=>∃ v,Den m ids s v/\∀ w,(Go.part T us.toArray o).run E.P w=.ok v w):=by
 unfold lq
 cases hk:zP E T with
 |bad=>exact True.intro
 |flat =>
   simp only
   cases hn:nth cs o with
   |none=>exact True.intro
   |some s =>
     rw [pE]at hn;obtain⟨u,h1,h2⟩:=hc.get hn;exact⟨u,h2,uQ hk h1⟩
 |agg k =>
   simp only;split
   ·have hd:=aC.take k (aC.drop o hc);rw [Jy,Kq];exact⟨.agg ((us.drop o).take k).toArray,by rw [Den];exact⟨_,rfl,hd⟩,Oo hk⟩
   ·exact True.intro
theorem Jg {T:TypeId} {x:Operand} {f:Nat} {s:SV} {u:Value} (hx:XK.ev (dO a) x=some u) (hs:Den m ids s u):iR (z8 E T s f) (iM E m ids a ⟨d,.fieldAddr T x f,ty,pos,af,g⟩):=by
 unfold z8;split
 ·rename_i o' T' hf;obtain⟨fs,fd,h1,h2,rfl,rfl⟩:=Bf hf;split
  ·rename_i n hr;obtain⟨z,by',h3⟩:=gY hr;split
   ·rename_i i o;rw [Den]at hs;obtain⟨b,h4,rfl⟩:=hs;exact .of (by rw [Den];exact⟨b,h4,rfl⟩) (dx (gG.fieldAddr h1 h2 h3 hx))
   ·rename_i cs o;rw [Den]at hs;obtain⟨b,q,us,rfl,h4⟩:=hs;exact .of (by rw [Den];exact⟨b,q,us,by rw [Nat.add_assoc],h4⟩) (dx (gG.fieldAddr h1 h2 h3 hx))
   ·rw [Den]at hs;obtain⟨b,q,n,c,h4,h5,h6,rfl⟩:=hs;exact .of (by rw [Den];exact⟨b,q,n,c,h4,h5,h6,by rw [Nat.add_assoc]⟩) (dx (gG.fieldAddr h1 h2 h3 hx))
   ·rw [Den]at hs;obtain⟨b,h4,h5,h6,rfl⟩:=hs;exact .of (by rw [Den];exact⟨b,h4,h5,h6,by rw [Nat.add_assoc]⟩) (dx (gG.fieldAddr h1 h2 h3 hx))
   ·exact True.intro
  ·exact True.intro
 ·exact True.intro
theorem VY {T:TypeId} {x:Operand} {f:Nat} {s:SV} {u:Value} (hx:XK.ev (dO a) x=some u) (hs:Den m ids s u):iR (Q7 E T s f) (iM E m ids a ⟨d,.field T x f,ty,pos,af,g⟩):=by
 unfold Q7;split
 ·rename_i cs;rw [Den]at hs;obtain⟨us,rfl,h⟩:=hs;split
  ·rename_i o T' hf;obtain⟨fs,fd,h1,h2,rfl,rfl⟩:=Bf hf;refine(Rk h).mono fun s' ⟨v,hv,hr⟩=>.of hv fun w=>?_
   have e1:=(aR a).ev hx;simp only [execOp,e1,Instr.field,Sem.run_bind,run_underlying h1,Result.andThen_ok,h2,asAgg,Sem.run_pure,hr];exact⟨rfl,rfl⟩
  ·exact True.intro
 ·exact True.intro
theorem Nz {x y:Operand} {T e:TypeId} {n K b o by':Nat} {z:Value} {k:IntKind} {i:Int} (ht:E.P.underlying T=some (.array n e)) (hi:Inf E.P e z K by') (hx:XK.ev (dO a) x=some (.pointer (some ⟨b,o,none⟩))) (hy:XK.ev (dO a) y=some (.int k i)) (h0:0<=i) (h1:i<n) :
   Sl E.P a ⟨d,.indexAddr T x y,ty,pos,af,g⟩ (.pointer (some ⟨b,o+i.toNat * K,none⟩)):=fun w=>by
 obtain⟨inf,h2,h3,h4,h5⟩:=hi.ex;have e1:=(aR a).ev hx;have e2:=(aR a).ev hy;simp [execOp,e1,e2,Instr.indexAt,asIntOf,run_underlying ht,Instr.sureAddr,h0,h1,sizeOf,typeInfo,h2,h4,bf,Addr.add_mid]
theorem Dq {s:SV} {u:Value} {n:Int} (h:asIx s=some n) (hs:Den m ids s u):∃ k,u=.int k n:=by
 unfold asIx at h;split at h
 ·cases h;rw [Den]at hs;exact⟨_,hs.1⟩
 ·cases h;rw [Den]at hs;exact⟨_,hs⟩
 ·cases h
theorem VJ (hS:Sat C σ m ids a) {T:TypeId} {x y:Operand} {s:SV} {k:Int} {u:Value} {ik:IntKind} (hx:XK.ev (dO a) x=some u) (hy:XK.ev (dO a) y=some (.int ik k)) (hs:Den m ids s u) :
   iR (QV E σ T s k) (iM E m ids a ⟨d,.indexAddr T x y,ty,pos,af,g⟩):=by
 unfold QV;split
 ·rename_i cs;split
  ·rename_i he;intro ⟨h0,h1⟩;obtain⟨e,zz,bb,h2,h3⟩:=kE he;rw [Den]at hs;obtain⟨b,q,us,rfl,hle,h4,h5,h6⟩:=hs;rw [len_eq,<- h6.length]at h1;have:=(dx (gG.indexAddr (d:=d) (ty:=ty) (pos:=pos) (af:=af) (g:=g) h2 h3 hx hy h0 h1));rw [Nat.mul_one]at this;exact .of (by rw [Den];exact⟨b,q,us,rfl,h4,h5,h6⟩) this
  ·exact True.intro
 ·rename_i z c l;split
  ·rename_i K' he;split
   ·rename_i cs hk hcs;have hk:=dI hk;intro ⟨h0,h1⟩;obtain⟨e,zz,bb,h2,h3⟩:=kE he;rw [Den]at hs;obtain⟨b,q,cp,us,rfl,h4,h5,h6⟩:=hs.elem (k:=k.toNat) au (rE c)
    rw [<- hk]at h3;exact .of (by rw [Den];exact⟨b,q+k.toNat * KT c,us,rfl,h4,h5,(nI c _ hcs).1 h6⟩) (dx (gG.indexAddr h2 h3 hx hy h0 h1))
   ·exact True.intro
  ·exact True.intro
 ·rename_i i;rw [Den]at hs;split
  ·rename_i K' _ _ c l he hl;split
   ·rename_i hk;have hk:=dI hk;intro ⟨h0,h1⟩;obtain⟨e,zz,bb,h2,h3⟩:=kE he;obtain⟨v',bC,h4,h5,_⟩:=hS.heap.sat i _ hl;rw [hs.1]at h4;cases h4;obtain⟨b,q,cp,rfl,_⟩:=h5.reads.has au
    rw [<- hk]at h3;exact .of (by rw [Den];exact⟨b,q,_,cp,hs.1,h0,h1,rfl⟩) (dx (gG.indexAddr h2 h3 hx hy h0 h1))
   ·exact True.intro
  ·rename_i K' _ c l he hl;split
   ·rename_i cs hk hcs;have hk:=dI hk;intro ⟨h0,h1⟩;obtain⟨e,zz,bb,h2,h3⟩:=kE he;obtain⟨v',h4,h5⟩:=hS.heap.sat i _ hl;rw [hs.1]at h4;cases h4;obtain⟨b,q,cp,us,rfl,h4,h5,h6⟩:=h5.elem (k:=k.toNat) au (rE c)
    rw [<- hk]at h3;exact .of (by rw [Den];exact⟨b,q+k.toNat * KT c,us,rfl,h4,h5,(nI c _ hcs).1 h6⟩) (dx (gG.indexAddr h2 h3 hx hy h0 h1))
   ·exact True.intro
  ·exact True.intro
 ·rename_i i;rw [Den]at hs;split
  ·rename_i _ _ _ _ l _ he hl;intro ⟨h0,h1⟩;obtain⟨vs,hid,_⟩:=hs;obtain⟨e,zz,bb,h2,h3⟩:=kE he;obtain⟨v',vs',us,h4,h5⟩:=hS.heap.sat i _ hl;obtain⟨rfl,rfl⟩:=xY hid h4;obtain⟨b,q,cp,rfl,_⟩:=h5.out.reads.has au
   have:=(dx (gG.indexAddr (d:=d) (ty:=ty) (pos:=pos) (af:=af) (g:=g) h2 h3 hx hy h0 h1));rw [Nat.mul_one]at this;exact .of (by rw [Den];exact⟨b,q,_,cp,_,hid,h0,h1,rfl⟩) this
  ·exact True.intro
 ·rename_i i c lo hi;rw [Den]at hs;obtain⟨ad,n,cp,hid,h0,h1,h2,hn,hc,_,rfl⟩:=hs;split
  ·rename_i K' he;split
   ·rename_i hk;have hk:=dI hk;intro ⟨h3,h4⟩;obtain⟨e,zz,bb,h5,h6⟩:=kE he;rw [<- hk]at h6;obtain⟨b,q,rfl⟩:=hn au
    have hne:¬ cp=lo.toNat:=by omega
    simp only [uz,hne,if_false,Option.map_some,Addr.add_mid]at hx;refine .of (by rw [Den];exact⟨b,q,n,cp,hid,au,au,rfl⟩) ?_
    have h7:=dx (gG.indexAddr (d:=d) (ty:=ty) (pos:=pos) (af:=af) (g:=g) h5 h6 hx hy h3 au)
    have e1:q+lo.toNat * KT c+k.toNat * KT c=q+(lo+k).toNat * KT c+0:=by
      rw [show(lo+k).toNat=lo.toNat+k.toNat by omega,Nat.add_mul];omega
    rw [e1]at h7;exact h7
   ·exact True.intro
  ·exact True.intro
 ·rename_i i c N lo hi;rw [Den]at hs;obtain⟨b,hid,h0,h1,h2,_,rfl⟩:=hs;split
  ·rename_i K' he;split
   ·rename_i hk;have hk:=dI hk;intro ⟨h3,h4⟩;obtain⟨e,zz,bb,h5,h6⟩:=kE he;rw [<- hk]at h6;have hne:¬ N=lo.toNat:=by omega
    simp only [uz,hne,if_false,Option.map_some,Addr.add_mid]at hx;refine .of (by rw [Den];exact⟨b,hid,au,au,rfl⟩) ?_
    have h7:=dx (gG.indexAddr (d:=d) (ty:=ty) (pos:=pos) (af:=af) (g:=g) h5 h6 hx hy h3 au)
    have e1:0+lo.toNat * KT c+k.toNat * KT c=(lo+k).toNat * KT c+0:=by
      rw [show(lo+k).toNat=lo.toNat+k.toNat by omega,Nat.add_mul];omega
    rw [e1]at h7;exact h7
   ·exact True.intro
  ·exact True.intro
 ·rename_i i;rw [Den]at hs;obtain⟨b,h1,rfl⟩:=hs;split
  ·rename_i n K' _ N c l he hl;split
   ·rename_i hk hn;have hk:=dI hk;have hn:=dI hn;intro ⟨h2,h3⟩;obtain⟨e,zz,bb,h4,h5⟩:=Bt he;rw [<- hk]at h5;rw [hn]at h4;exact .of (by rw [Den];exact⟨b,h1,h2,h3,by rw [Nat.zero_add,Nat.add_zero]⟩) (Nz h4 h5 hx hy h2 h3)
   ·exact True.intro
  ·exact True.intro
 ·rename_i c N l;rw [Den]at hs;obtain⟨b,q,bC,rfl,h4,h5,h6,h7⟩:=hs;split
  ·rename_i n K' he;split
   ·rename_i cs hk hn hcs;have hk:=dI hk;have hn:=dI hn;intro ⟨h2,h3⟩;obtain⟨e,zz,bb,h8,h9⟩:=Bt he;rw [<- hk]at h9;rw [hn]at h8;obtain⟨us,h10,_,h11⟩:=h6.at h5 (k:=k.toNat) au (rE c)
    exact .of (by rw [Den];exact⟨b,q+k.toNat * KT c,us,rfl,h4,h10,(nI c _ hcs).1 h11⟩) (Nz h8 h9 hx hy h2 h3)
   ·exact True.intro
  ·exact True.intro
 ·exact True.intro
theorem byte_get {s:ByteArray} {k:Nat} (h:k<s.size):s[k]?=some (rz s k):=by
 have:((k:Int)).toNat=k:=by omega
 unfold rz;rw [this];have hk:(s[k]?).isSome=true:=by simp [h]
 cases hq:s[k]? with
 |none=>rw [hq]at hk;cases hk
 |some v=>rfl
theorem Ky:∀ {cs:List SV} {l:List Int} {us:List Value},asIs cs=some l->aC m ids cs us->us=l.map (fun n=>Value.int .i64 n)/\∀ n∈l,lC n
 |[],l,us,h,hd=>by
   simp only [asIs,Option.some.injEq]at h;subst h;exact⟨hd.nil,fun _ h=>by cases h⟩
 |.i n::r,l,us,h,hd=>by
   simp only [asIs]at h;split at h
   ·rename_i l' hl;cases h;rw [aC]at hd;obtain⟨u,us',rfl,h2,h3⟩:=hd;rw [Den]at h2;obtain⟨h4,h5⟩:=Ky hl h3;refine⟨by rw [h2.1,h4];rfl,fun k hk=>?_⟩
    rcases List.mem_cons.1 hk with rfl|hk
    ·exact h2.2
    ·exact h5 k hk
   ·cases h
 |.v _::_,_,_,h,_=>by simp [asIs]at h
 |.b _::_,_,_,h,_=>by simp [asIs]at h
 |.w8 _::_,_,_,h,_=>by simp [asIs]at h
 |.w32 _::_,_,_,h,_=>by simp [asIs]at h
 |.jg _::_,_,_,h,_=>by simp [asIs]at h
 |.str _::_,_,_,h,_=>by simp [asIs]at h
 |.loc .. :: _,_,_,h,_=>by simp [asIs]at h
 |.bT .. :: _,_,_,h,_=>by simp [asIs]at h
 |.wN .. :: _,_,_,h,_=>by simp [asIs]at h
 |.DN .. :: _,_,_,h,_=>by simp [asIs]at h
 |.sub .. :: _,_,_,h,_=>by simp [asIs]at h
 |.Ah .. :: _,_,_,h,_=>by simp [asIs]at h
 |.Ag .. :: _,_,_,h,_=>by simp [asIs]at h
 |.DF .. :: _,_,_,h,_=>by simp [asIs]at h
 |.av .. :: _,_,_,h,_=>by simp [asIs]at h
 |.aW .. :: _,_,_,h,_=>by simp [asIs]at h
 |.fp .. :: _,_,_,h,_=>by simp [asIs]at h
 |.lH .. :: _,_,_,h,_=>by simp [asIs]at h
 |.yN .. :: _,_,_,h,_=>by simp [asIs]at h
 |.agg .. :: _,_,_,h,_=>by simp [asIs]at h
 |.jm .. :: _,_,_,h,_=>by simp [asIs]at h
 |.nL .. :: _,_,_,h,_=>by simp [asIs]at h
 |.uo .. :: _,_,_,h,_=>by simp [asIs]at h
 |.un::_,_,_,h,_=>by simp [asIs]at h
theorem idxE_ok {T:TypeId} {x y:Operand} {s:SV} {k:Int} {ik:IntKind} {u:Value} (hx:XK.ev (dO a) x=some u) (hy:XK.ev (dO a) y=some (.int ik k)) (hs:Den m ids s u) :
   iR (idxE E T s k) (iM E m ids a ⟨d,.index T x y,ty,pos,af,g⟩):=by
 have e1:=(aR a).ev hx;have e2:=(aR a).ev hy;unfold idxE;split
 ·rename_i b hT;have hu:E.P.underlying T=some .string:=fK hT;rw [Den]at hs;obtain⟨rfl,_⟩:=hs;intro ⟨h0,h1⟩;refine .of (by rw [Den]) fun w=>?_
  have hlt:k.toNat<b.size:=by omega
  have hb:=byte_get hlt;rw [show((k.toNat:Nat):Int)=k by omega]at hb
  simp [execOp,e1,e2,Instr.index,asIntOf,run_underlying hu,h0,hb,bf]
 ·rename_i n e _ _ _ _ _ cs hT;have hu:E.P.underlying T=some (.array n e):=fK hT;rw [Den]at hs;obtain⟨us,rfl,hs⟩:=hs;split
  ·rename_i l hl hf hz;split
   ·rename_i hn;have hn:=dI hn;rw [len_eq]at hn;intro ⟨h0,h1⟩;obtain⟨h3,h4⟩:=Ky hl hs;obtain⟨zv,bb,h5⟩:=gY hz;obtain⟨inf,h6,_,h7,_⟩:=h5.ex;have hlt:k.toNat<l.length:=by omega
    have hg:l.getD k.toNat 0=l[k.toNat]:=by rw [List.getD_eq_getElem?_getD,bZ hlt];rfl
    refine .of (v:=.int .i64 (l.getD k.toNat 0)) (nC (by rw [hg];exact h4 _ (List.getElem_mem hlt))) fun w=>?_
    have hp:=uQ (E:=E) hf (us:=us) (o:=k.toNat) (u:=.int .i64 (l.getD k.toNat 0)) (by rw [h3,hg];simp [hlt]) w
    simp only [execOp,e1,e2,Instr.index,asIntOf,Sem.run_bind,Sem.run_pure,Result.andThen_ok,run_underlying hu];rw [if_pos au]
    simp [sizeOf,typeInfo,h6,h7,hp,bf]
   ·exact True.intro
  ·exact True.intro
 ·rename_i n e _ _ _ _ _ c N l hT;have hu:E.P.underlying T=some (.array n e):=fK hT;rw [Den]at hs;obtain⟨bC,rfl,hel,hN⟩:=hs;split
  ·rename_i s hf hz hes;split
   ·rename_i hn;have hn:=dI hn;intro ⟨h0,h1⟩;obtain⟨zv,bb,h5⟩:=gY hz;obtain⟨inf,h6,_,h7,_⟩:=h5.ex;have hlt:k.toNat<l.length:=by omega
    have hg:gt c l k.toNat=l[k.toNat]:=by unfold gt;rw [List.getD_eq_getElem?_getD,bZ hlt];rfl
    obtain⟨us,q1,q2⟩:=hel.2.2 k.toNat l[k.toNat] (bZ hlt);rw [<- hg]at q2;have q3:=(nI (ids:=ids) c _ hes).1 q2;rw [aC]at q3;obtain⟨u,us',rfl,q4,q5⟩:=q3;rw [aC]at q5;subst q5;have Nb:k.toNat<bC.length:=by rw [hel.1];exact hlt
    have hget:bC[k.toNat]=[u]:=by rw [bZ Nb]at q1;exact Option.some.inj q1
    have hK:KT c=1:=by rw [<- hel.2.1 bC[k.toNat] (List.getElem_mem Nb),hget];rfl
    have hfl:bC.flatten[k.toNat]?=some u:=by
      have:=oK bC k.toNat 0 hel.2.1 Nb (by rw [hK];exact Nat.one_pos)
      rw [hK,Nat.mul_one,Nat.add_zero,hget]at this;exact this
    refine .of (v:=u) q4 fun w=>?_
    have hp:=uQ (E:=E) hf (us:=bC.flatten) (o:=k.toNat) hfl w;simp only [execOp,e1,e2,Instr.index,asIntOf,Sem.run_bind,Sem.run_pure,Result.andThen_ok,run_underlying hu];rw [if_pos au]
    simp [sizeOf,typeInfo,h6,h7,hp,bf]
   ·exact True.intro
  ·exact True.intro
 ·exact True.intro
theorem Zo (hS:Sat C σ m ids a) {T:TypeId} {x:Operand} {s:SV} {u:Value} (hx:XK.ev (dO a) x=some u) (hs:Den m ids s u) :
   iR (G7 E σ T s) (fun r=>∃ v,Den m ids r v/\∀ w,Ext m.w w->kD E.P v w ((execOp a.eval ⟨d,.load T x,ty,pos,af,g⟩).run E.P w)):=by
 unfold G7;split
 ·rename_i i o;rw [Den]at hs;obtain⟨b,h1,rfl⟩:=hs;split
  ·rename_i T' cs hl;obtain⟨b',vs,h2,h3,h4⟩:=hS.heap.sat i _ hl;rw [h1]at h2;cases h2;exact qX (q:=0) h4 h3.at (by rw [Nat.zero_add];exact hx)
  ·rename_i T' cs hl;obtain⟨b',vs,h2,h3,h4,_⟩:=hS.heap.sat i _ hl;rw [h1]at h2;cases h2;exact qX (q:=0) h4 h3.at (by rw [Nat.zero_add];exact hx)
  ·rename_i T' N c l hl;obtain⟨b',bC,h2,h3,h4,h5⟩:=hS.heap.sat i _ hl;rw [h1]at h2;cases h2;split
   ·rename_i kk hk;split
    ·rename_i hkn;have hlen:bC.flatten.length=kk:=by rw [dI hkn,h4.flat,h5]
     refine⟨.agg bC.flatten.toArray,by rw [Den];exact⟨bC,rfl,h4,h5⟩,fun w hw=>?_⟩
     exact M6.Mq (wc:=m.w) (by rw [hlen];exact CU hk) hx h3.at a _ (aR a) w hw
    ·exact True.intro
   ·exact True.intro
  ·exact True.intro
 ·rename_i cs o;rw [Den]at hs;obtain⟨b,q,us,rfl,_,h2,h3⟩:=hs;exact qX h3 h2 hx
 ·rename_i c N l;rw [Den]at hs;obtain⟨b,q,bC,rfl,_,h2,h4,h5⟩:=hs;split
  ·rename_i kk hk;split
   ·rename_i hkn;have hlen:bC.flatten.length=kk:=by rw [dI hkn,h4.flat,h5]
    refine⟨.agg bC.flatten.toArray,by rw [Den];exact⟨bC,rfl,h4,h5⟩,fun w hw=>?_⟩
    exact M6.Mq (wc:=m.w) (by rw [hlen];exact CU hk) hx h2 a _ (aR a) w hw
   ·exact True.intro
  ·exact True.intro
 ·rename_i i c k o;rw [Den]at hs;obtain⟨b,q,n,cp,h1,h2,h3,rfl⟩:=hs;split
  ·rename_i _ _ c' l' hl;split
   ·rename_i l hcast;obtain⟨e,hcast⟩:=dU hcast;subst e;cases hcast;obtain⟨v',bC,h4,h5,h6,_⟩:=hS.heap.sat i _ hl;rw [h1]at h4;cases h4;have hr:=h5.reads;obtain⟨b2,c2,e,_⟩:=hr.len;injection e with e1 e2 e3
    obtain⟨b3,q3,c3,e',_,_,hat⟩:=hr.has au
    injection e' with e1' _ _
    cases e1';obtain⟨us,h7,_,h9⟩:=h6.at hat (k:=k.toNat) au (rE c')
    split
    ·rename_i cs hcs;exact qX ((nI c' _ hcs).1 h9) h7 hx
    ·exact True.intro
   ·exact True.intro
  ·exact True.intro
 ·rename_i i c N k o;rw [Den]at hs;obtain⟨b,h1,h2,h3,rfl⟩:=hs;split
  ·rename_i _ N' c' l' hl;split
   ·rename_i l hcast hn;obtain⟨e,hcast⟩:=dU hcast;subst e;cases hcast;have hn:=dI hn;subst hn;obtain⟨b',bC,h4,h5,h6,h7⟩:=hS.heap.sat i _ hl;rw [h1]at h4;cases h4;obtain⟨us,h8,_,h9⟩:=h6.at h5.at (k:=k.toNat) au (rE c')
    rw [Nat.zero_add]at h8;split
    ·rename_i cs hcs;exact qX ((nI c' _ hcs).1 h9) h8 hx
    ·exact True.intro
   ·exact True.intro
  ·exact True.intro
 ·exact True.intro
theorem jC {c n:Nat} (h:n*BT c<=140737488355328):n<=140737488355328:=Nat.le_trans (by have:=Nat.mul_le_mul_left n (BT_pos c);omega) h
theorem ofInt8 (n:Int):((UInt8.ofInt n).toNat:Int)=n % 256:=by
 show((UInt8.ofNat (n % 2 ^ 8).toNat).toNat:Int)=_;rw [UInt8.toNat_ofNat'];omega
theorem ofInt64 (n:Int):((UInt64.ofInt n).toNat:Int)=n % 18446744073709551616:=by
 show((UInt64.ofNat (n % 2 ^ 64).toNat).toNat:Int)=_;rw [UInt64.toNat_ofNat'];omega
theorem A8 {n:Nat} (h:n<=140737488355328):lC (n:Int):=by unfold lC;omega
theorem lenE_ok (hS:Sat C σ m ids a) {T:TypeId} {x:Operand} {s:SV} {u:Value} {ts:Array TypeId} (hts:ts = #[T]) (hx:XK.ev (dO a) x=some u) (hs:Den m ids s u) :
   iR (lenE E σ T s) (fun r=>∃ v,Den m ids r v/\∀ w,Ext m.w w->kD E.P v w ((execOp a.eval ⟨d,.call ⟨.builtin .len,#[x],ts⟩,ty,pos,af,g⟩).run E.P w)):=by
 subst hts;have e1:=(aR a).ev hx
 have mk:∀ (r:SV) (v:Value),Den m ids r v->Sl E.P a ⟨d,.call ⟨.builtin .len,#[x],#[T]⟩,ty,pos,af,g⟩ v->∃ v,Den m ids r v/\∀ w,Ext m.w w->kD E.P v w ((execOp a.eval ⟨d,.call ⟨.builtin .len,#[x],#[T]⟩,ty,pos,af,g⟩).run E.P w) :=
   fun r v h k=>⟨v,h,fun w _=>exu (k w)⟩
 unfold lenE;split
 ·rename_i e _ _ _ _ _ z c l hT;have hu:E.P.underlying T=some (.slice e):=fK hT;rw [Den]at hs;obtain⟨bC,h1,_,_,_,h6⟩:=id hs;obtain⟨b,cp,rfl,_⟩:=hs.shape;have h7:=jC h6;exact⟨⟨h6,h7⟩,mk _ _ (nC (A8 h7)) (dx (gG.len hu hx))⟩
 ·rename_i e _ _ _ _ _ hT;have hu:E.P.underlying T=some (.slice e):=fK hT;cases oM hs;exact mk _ _ (nC (by unfold lC;omega)) (dx (gG.len hu hx))
 ·rename_i e _ _ _ _ _ i hT;have hu:E.P.underlying T=some (.slice e):=fK hT;rw [Den]at hs;split
  ·rename_i _ _ c l hl;obtain⟨v',bC,h1,h2,_,_,h5⟩:=hS.heap.sat i _ hl;rw [hs.1]at h1;cases h1;obtain⟨b,cp,rfl,_⟩:=h2.reads.len;have h7:=jC h5;exact⟨⟨h5,h7⟩,mk _ _ (nC (A8 h7)) (dx (gG.len hu hx))⟩
  ·rename_i _ c l hl;obtain⟨v',h1,h2⟩:=hS.heap.sat i _ hl;rw [hs.1]at h1;cases h1;obtain⟨bC,h1,_,_,_,h6⟩:=id h2;obtain⟨b,cp,rfl,_⟩:=h2.shape;have h7:=jC h6;exact⟨⟨h6,h7⟩,mk _ _ (nC (A8 h7)) (dx (gG.len hu hx))⟩
  ·exact True.intro
 ·rename_i e _ _ _ _ _ i hT;have hu:E.P.underlying T=some (.slice e):=fK hT;rw [Den]at hs;split
  ·rename_i _ _ c _ l _ hl;obtain⟨vs,hid,_⟩:=hs;obtain⟨v',vs',us,h4,h5⟩:=hS.heap.sat i _ hl;obtain⟨rfl,rfl⟩:=xY hid h4;obtain⟨b,cp,rfl,_⟩:=h5.out.reads.len;have h7:=jC h5.B;exact⟨⟨h5.B,h7⟩,mk _ _ (nC (A8 h7)) (dx (gG.len hu hx))⟩
  ·exact True.intro
 ·rename_i e _ _ _ _ _ i c lo hi hT;have hu:E.P.underlying T=some (.slice e):=fK hT;rw [Den]at hs;obtain⟨ad,n,cp,hid,h0,h1,h2,hn,hc,h7,rfl⟩:=hs;have h8:=h7;refine mk _ (.int .i64 ((hi.toNat-lo.toNat:Nat):Int)) ?_ (dx (gG.len hu hx));rw [show((hi.toNat-lo.toNat:Nat):Int)=hi-lo by omega]
  exact nC (by unfold lC;omega)
 ·rename_i e _ _ _ _ _ i c N lo hi hT;have hu:E.P.underlying T=some (.slice e):=fK hT;rw [Den]at hs;obtain⟨b,hid,h0,h1,h2,h7,rfl⟩:=hs;refine mk _ (.int .i64 ((hi.toNat-lo.toNat:Nat):Int)) ?_ (dx (gG.len hu hx));rw [show((hi.toNat-lo.toNat:Nat):Int)=hi-lo by omega]
  exact nC (by unfold lC;omega)
 ·rename_i e _ _ _ _ _ cs hT;have hu:E.P.underlying T=some (.slice e):=fK hT;rw [Den]at hs;obtain⟨b,q,us,rfl,hle,h4,h5,h6⟩:=hs;rw [len_eq,<- h6.length];exact mk _ _ (nC (A8 au)) (dx (gG.len hu hx))
 ·rename_i s' hT;have hu:E.P.underlying T=some .string:=fK hT;rw [Den]at hs;obtain⟨rfl,h1⟩:=hs;refine⟨h1,mk _ _ (nC (by unfold lC;unfold oo at h1;omega)) fun w=>?_⟩
  simp [execOp,resolve,invoke,builtin,e1,Builtin.len_,run_underlying hu,bf,goInt]
 ·rename_i kk vv _ _ _ _ _ i hT;have hu:E.P.underlying T=some (.map kk vv):=fK hT;rw [Den]at hs;split
  ·rename_i kc vc l hl;obtain⟨b,h1,⟨es,ck,h2,h3⟩,_⟩:=hS.heap.sat i _ hl;rw [hs.1]at h1;cases h1
   have hlen:es.size=l.length:=by
     have:=congrArg List.length h3;simpa using this
   intro hle;refine⟨_,nC (n:=(l.length:Int)) (by unfold lC;omega),fun w hw=>?_⟩
   have hlt:b<m.w.heap.size:=(Array.getElem?_eq_some_iff.1 h2).1;have h2':w.heap[b]?=some (.map es ck):=(hw.block b hlt).trans h2;have hg:(getObj b).run E.P w=.ok (.map es ck) w:=by simp [getObj,Sem.run,h2']
   have hl:(Builtin.len_ #[T] ty #[.map (some b)]).run E.P w=.ok (goInt es.size) w:=by
     simp only [Builtin.len_,List.getElem?_toArray,List.getElem?_cons_zero,Sem.run_bind,run_underlying hu,Result.andThen_ok,hg,Sem.run_pure]
   simp only [execOp,resolve,invoke,builtin,Sem.run_bind,Sem.run_pure,Result.andThen_ok,List.map_toArray,List.map_cons,List.map_nil,e1,hl];rw [hlen];exact⟨rfl,Ext.refl _⟩
  ·exact True.intro
 ·exact True.intro
theorem convE_ok {S T:TypeId} {x:Operand} {s:SV} {u:Value} (hx:XK.ev (dO a) x=some u) (hs:Den m ids s u):iR (convE E S T s) (iM E m ids a ⟨d,.convert S T x,ty,pos,af,g⟩):=by
 have e1:=(aR a).ev hx;unfold convE;split
 ·rename_i k0 _ _ _ _ _ k _ _ _ _ _ hS hT;have hu:E.P.underlying S=some (.int k0):=fK hS;have hv:E.P.underlying T=some (.int k):=fK hT
  have run:∀ (k':IntKind) (n:Int),u=.int k' n->Sl E.P a ⟨d,.convert S T x,ty,pos,af,g⟩ (.int k (k.wrap n)):=fun k' n hn w=>by
    subst hn;simp [execOp,e1,Go.convert,run_underlying hu,run_underlying hv,Conv.intToInt,bf]
  split
  ·rw [Den]at hs;have h:=run _ _ hs.1;rw [kZ hs.2]at h;exact .of (nC hs.2) h
  ·rename_i n;rw [Den]at hs;refine .of (by rw [Den]) (v:=.int .u8 ((UInt8.ofInt n).toNat)) ?_
   have h:=run _ _ hs.1
   have e:IntKind.u8.wrap n=((UInt8.ofInt n).toNat:Int):=by
     rw [wrap_u8,ofInt8]
   rw [e]at h;exact h
  ·rename_i n;rw [Den]at hs;refine .of (by rw [Den]) (v:=.int .u64 ((UInt64.ofInt n).toNat)) ?_
   have h:=run _ _ hs.1
   have e:IntKind.u64.wrap n=((UInt64.ofInt n).toNat:Int):=by
     rw [wrap_u64,ofInt64]
   rw [e]at h;exact h
  ·rw [Den]at hs;exact .of (by rw [Den]) (run _ _ hs.1)
  ·rename_i n;rw [Den]at hs;have h:=run _ _ hs;have:=lt8 n;rw [kZ (by unfold lC;omega)]at h
   exact .of (nC (by unfold lC;omega)) h
  ·rename_i n;rw [Den]at hs;have h:=run _ _ hs;have:=lt8 n;rw [wrap_u8,show((n.toNat:Int) % 256)=n.toNat by omega]at h
   exact .of (by rw [Den]) h
  ·rename_i n;rw [Den]at hs;have h:=run _ _ hs;have:=lt8 n
   have e:IntKind.u64.wrap n.toNat=((UInt64.ofNat n.toNat).toNat:Int):=by
     rw [wrap_u64,UInt64.toNat_ofNat'];omega
   rw [e]at h;exact .of (by rw [Den]) h
  ·rename_i n;rw [Den]at hs;exact .of (vH _) (run _ _ hs)
  ·rename_i n;rw [Den]at hs;have h:=run _ _ hs
   have e:IntKind.u8.wrap n.toNat=((UInt8.ofNat n.toNat).toNat:Int):=by
     rw [wrap_u8,UInt8.toNat_ofNat'];omega
   rw [e]at h;exact .of (by rw [Den]) h
  ·rename_i n;rw [Den]at hs;have h:=run _ _ hs;have:=Jc n;rw [wrap_u64,show((n.toNat:Int) % 18446744073709551616)=n.toNat by omega]at h
   exact .of (by rw [Den]) h
  ·rename_i n;cases oM hs;exact .of (vH _) (run _ _ rfl)
  ·exact True.intro
 ·rename_i hS hT;have hu:E.P.underlying S=some .string:=fK hS;have hv:E.P.underlying T=some .string:=fK hT;split
  ·rw [Den]at hs;obtain⟨rfl,h⟩:=hs;refine .of (by rw [Den];exact⟨rfl,h⟩) fun w=>?_
   simp [execOp,e1,Go.convert,run_underlying hu,run_underlying hv,bf]
  ·exact True.intro
 ·exact True.intro
theorem unE_ok {op:UnOp} {T:TypeId} {x:Operand} {s:SV} {u:Value} (hx:XK.ev (dO a) x=some u) (hs:Den m ids s u):iR (unE op s) (iM E m ids a ⟨d,.unOp op T x,ty,pos,af,g⟩):=by
 have e1:=(aR a).ev hx;unfold unE;split
 ·rw [Den]at hs;subst hs;exact .of (pW _) (dx (gG.not hx))
 ·rw [Den]at hs;obtain⟨rfl,h⟩:=hs;refine⟨h,.of (vH _) fun w=>?_⟩
  simp [execOp,e1,Op.unary,Op.intArith,bf]
 ·rename_i n;rw [Den]at hs;subst hs;refine .of (v:=.int .u64 (~~~n).toNat) (by rw [Den]) fun w=>?_
  have:=Jc n
  have h2:BitVec.ofInt 64 18446744073709551615 ^^^ BitVec.ofInt 64 (n.toNat:Int)=(~~~n).toBitVec:=by
    rw [MU,UInt64.toBitVec_not,show BitVec.ofInt 64 18446744073709551615=BitVec.allOnes 64 by decide,BitVec.xor_comm,BitVec.xor_allOnes]
  have h3:IntKind.u64.wrap (BitVec.ofInt 64 18446744073709551615 ^^^ BitVec.ofInt 64 (n.toNat:Int)).toNat=((~~~n).toNat:Int):=by
    rw [h2,wrap_u64];change ((~~~n).toNat:Int) % 18446744073709551616=_;have:=Jc (~~~n);omega
  have hrun:(Op.unary .xor (.int .u64 n.toNat)).run E.P w=.ok (.int .u64 (IntKind.u64.wrap (BitVec.ofInt 64 18446744073709551615 ^^^ BitVec.ofInt 64 (n.toNat:Int)).toNat)) w:=by
    have hm:IntKind.u64.max=18446744073709551615:=by decide
    unfold Op.unary Op.intBits;simp only [IntKind.signed,hm,Bool.false_eq_true,if_false];rfl
  simp only [execOp,e1,Sem.run_bind,hrun,Result.andThen_ok,Sem.run_pure,h3];exact⟨rfl,rfl⟩
 ·exact True.intro
theorem one_one {s:SV} {v:Value} (h:one s=true) (hs:Den m ids s v):v.oneCell'=true:=by
 cases s<;>simp only [one]at h<;>try (cases h;done)
 case v x =>
   cases oM hs;cases v<;>simp only at h<;>first|(cases h;done)|rfl
 case bT i =>
   rw [Den]at hs;exact hs.2
 all_goals rw [Den]at hs
 case i=>obtain⟨rfl,_⟩:=hs;rfl
 case b=>subst hs;rfl
 case w8=>subst hs;rfl
 case w32=>subst hs;rfl
 case jg=>subst hs;rfl
 case str=>obtain⟨rfl,_⟩:=hs;rfl
 case loc=>obtain⟨_,_,rfl⟩:=hs;rfl
 case wN=>exact hs.elim fun _ h=>h.2
 case DN=>obtain⟨_,_,_,_,_,_,_,_,rfl⟩:=hs;rfl
 case sub=>obtain⟨_,_,_,_,_,_,_,_,_,_,rfl⟩:=hs;rfl
 case Ah=>obtain⟨_,_,_,_,_,_,_,rfl⟩:=hs;rfl
 case Ag=>obtain⟨_,_,_,_,rfl⟩:=hs;rfl
 case DF=>obtain⟨_,_,_,_,_,_,rfl⟩:=hs;rfl
 case aW=>obtain⟨_,_,rfl,_⟩:=hs.shape;rfl
 case fp=>obtain⟨_,_,_,rfl,_⟩:=hs;rfl
 case lH=>obtain⟨_,_,_,rfl,_⟩:=hs;rfl
 case yN=>obtain⟨_,_,_,rfl,_⟩:=hs;rfl
 case nL=>obtain⟨_,_,rfl,_⟩:=hs;rfl
 case uo=>obtain⟨_,rfl,_⟩:=hs;rfl
theorem Vl {s:SV} {v:Value} (h:one s=true) (hs:Den m ids s v):v.cells = #[v]:=by
 have:=one_one h hs;cases v<;>simp only [Value.oneCell']at this<;>first|(cases this;done)|rfl
theorem oq:∀ (l:List Value),aC m ids (UL l) l
 |[]=>by rw [UL,aC]
 |v::r=>by rw [UL,aC];exact⟨v,r,rfl,xI v,oq r⟩
theorem lJ {s:SV} {v:Value} (h:lK (cellsOf s)=true) (hs:Den m ids s v):aC m ids (cellsOf s) v.cells.toList:=by
 unfold cellsOf at h ⊢;split
 ·rw [Den]at hs;obtain⟨us,rfl,h1⟩:=hs;simpa [Value.cells] using h1
 ·cases oM hs;simpa [Value.cells] using oq _
 ·have h1:one s=true:=by
    simp only [lK]at h;split at h
    ·assumption
    ·cases h
  rw [Vl h1 hs,aC];exact⟨v,[],rfl,hs,by rw [aC]⟩
def vD:List Value->Nat->List Value->List Value
 |us,o,vs=>us.take o++vs++us.drop (o+vs.length)
theorem qN:∀ {cs:List SV} {us:List Value} {o:Nat} {ns:List SV} {vs:List Value},aC m ids cs us->aC m ids ns vs->o+ns.length<=cs.length->aC m ids (over cs o ns) (vD us o vs)
 |cs,us,o,[],vs,h,hn,_=>by
   have e:vs=[]:=hn.nil;subst e;have:over cs o []=cs:=by cases cs<;>rfl
   rw [this];simpa [vD] using h
 |[],_,_,_::_,_,_,_,hl=>by simp at hl
 |c::cs,us,0,n::ns,vs,h,hn,hl=>by
   rw [aC]at h hn;obtain⟨u,us',rfl,_,h3⟩:=h;obtain⟨v,vs',rfl,h5,h6⟩:=hn;have ih:=qN (o:=0) h3 h6 (by simp at hl ⊢;omega)
   rw [over,aC];refine⟨v,_,?_,h5,ih⟩;simp [vD]
 |c::cs,us,o+1,n::ns,vs,h,hn,hl=>by
   rw [aC]at h;obtain⟨u,us',rfl,h2,h3⟩:=h;have ih:=qN (o:=o) h3 hn (by simp at hl ⊢;omega)
   rw [over,aC];refine⟨u,_,?_,h2,ih⟩;simp [vD,Nat.add_right_comm]
theorem Kk (off:Nat):∀ (vs:List Value) (k:Nat) (cells:Array Value),off+k+vs.length<=cells.size ->
   ((vs.zipIdx k).foldl (fun cs (x:Value×Nat)=>cs.setIfInBounds (off+x.2) x.1) cells).toList=vD cells.toList (off+k) vs
 |[],k,cells,_=>by simp [vD]
 |v::r,k,cells,h=>by
   rw [List.zipIdx_cons,List.foldl_cons,Kk off r (k+1) _ (by simp at h ⊢;omega)]
   have hlt:off+k<cells.toList.length:=by simp at h ⊢;omega
   simp only [vD,Array.toList_setIfInBounds];rw [List.set_eq_take_append_cons_drop,if_pos hlt];have hk:(cells.toList.take (off+k)).length=off+k:=by simp at hlt ⊢;omega
   have e1:(cells.toList.take (off+k)++v::cells.toList.drop (off+k+1)).take (off+(k+1))=cells.toList.take (off+k)++[v]:=by
     rw [List.take_append,List.take_of_length_le au,hk,show off+(k+1)-(off+k)=1 by omega,List.take_succ_cons,List.take_zero]
   have e2:(cells.toList.take (off+k)++v::cells.toList.drop (off+k+1)).drop (off+(k+1)+r.length)=cells.toList.drop (off+k+(r.length+1)):=by
     rw [List.drop_append,List.drop_eq_nil_of_le au,List.nil_append,hk,show off+(k+1)+r.length-(off+k)=r.length+1 by omega,List.drop_succ_cons,List.drop_drop]
     congr 1
     omega
   rw [e1,e2];simp
theorem Kl {place:Nat->Option (Nat×Nat)} {cells:Array Value} {i:Nat} {v:Value} {rest:List (Nat×Value)} {o k:Nat} (hp:place i=some (o,k)) (hs:v.cells.size=k) (hl:o+k<=cells.size) :
   ∃ cells':Array Value,Instr.fill place cells ((i,v)::rest)=Instr.fill place cells' rest/\cells'.toList=vD cells.toList o v.cells.toList:=by
 refine⟨v.cells.zipIdx.foldl (fun cs (c,j)=>cs.setIfInBounds (o+j) c) cells,?_,?_⟩
 ·rw [Instr.fill,hp];simp only;rw [if_neg (by simp [hs];omega)]
 ·have:=Kk o v.cells.toList 0 cells (by simp;omega)
  rw [<- Array.foldl_toList,Array.toList_zipIdx];simpa using this
theorem JI {fs:List (Nat×TypeId)} {place:Nat->Option (Nat×Nat)} (hpl:∀ f o T k,nth fs f=some (o,T)->nO E T=some k->place f=some (o,k)) :
   ∀ {ps:List (Nat×SV)} {vs:List (Nat×Value)} {cs cs':List SV} {cells:Array Value},Gm E fs ps cs=some cs'->uh m ids ps vs->aC m ids cs cells.toList->∃ cells',Instr.fill place cells vs=some cells'/\aC m ids cs' cells'.toList
 |[],vs,cs,cs',cells,h,hv,hc=>by
   simp only [Gm,Option.some.injEq]at h;subst h;rw [uh]at hv;subst hv;exact⟨cells,rfl,hc⟩
 |(f,s)::r,vs,cs,cs',cells,h,hv,hc=>by
   obtain⟨v,vs',rfl,h1,h2⟩:=hv;simp only [Gm]at h;split at h
   ·rename_i o T hf;split at h
    ·rename_i k hk;split at h
     ·rename_i q1 q2 q3;have q1:=dI q1;have q2:=Nat.le_of_ble_eq_true q2;rw [len_eq]at q1 q2;have hd:=lJ q3 h1
      have hsz:v.cells.size=k:=by
        have:=hd.length;simp at this;omega
      have hcs:cells.size=cs.length:=by
        have:=hc.length;simpa using this
      obtain⟨cells1,h3,h4⟩:=Kl (cells:=cells) (rest:=vs') (hpl f o T k hf hk) hsz au
      have hd2:=qN (o:=o) (ns:=cellsOf s) hc hd au
      rw [<- h4]at hd2;obtain⟨cells2,h5,h6⟩:=JI hpl h h2 hd2;exact⟨cells2,by rw [h3];exact h5,h6⟩
     ·cases h
    ·cases h
   ·cases h
theorem yt {k:Nat} {place:Nat->Option (Nat×Nat)} (hpl:∀ f,place f=some (f*k,k)) :
   ∀ {ps:List (Nat×SV)} {vs:List (Nat×Value)} {cs cs':List SV} {cells:Array Value},zJ k ps cs=some cs'->uh m ids ps vs->aC m ids cs cells.toList->∃ cells',Instr.fill place cells vs=some cells'/\aC m ids cs' cells'.toList
 |[],vs,cs,cs',cells,h,hv,hc=>by
   simp only [zJ,Option.some.injEq]at h;subst h;rw [uh]at hv;subst hv;exact⟨cells,rfl,hc⟩
 |(f,s)::r,vs,cs,cs',cells,h,hv,hc=>by
   obtain⟨v,vs',rfl,h1,h2⟩:=hv;simp only [zJ]at h;split at h
   ·rename_i q1 q2 q3;have q1:=dI q1;have q2:=Nat.le_of_ble_eq_true q2;rw [len_eq]at q1 q2;have hd:=lJ q3 h1
    have hsz:v.cells.size=k:=by
      have:=hd.length;simp at this;omega
    have hcs:cells.size=cs.length:=by
      have:=hc.length;simpa using this
    obtain⟨cells1,h3,h4⟩:=Kl (cells:=cells) (rest:=vs') (hpl f) hsz au
    have hd2:=qN (o:=f*k) (ns:=cellsOf s) hc hd au
    rw [<- h4]at hd2;obtain⟨cells2,h5,h6⟩:=yt hpl h h2 hd2;exact⟨cells2,by rw [h3];exact h5,h6⟩
   ·cases h
theorem DR {P:Program}:∀ (F:List Field),(F.all fun(f:Field)=>(P.info? f.type).isSome)=true->∃ places:List (Nat×Nat),F.mapM (fun(f:Field)=>(P.info? f.type).map fun i=>(f.offset,i.size))=some places /\
   ∀ (j:Nat) (f:Field),F[j]?=some f->∀ i,P.info? f.type=some i->places[j]?=some (f.offset,i.size)
 |[],_=>⟨[],rfl,fun _ _ h=>by simp at h⟩
 |f::r,h=>by
   simp only [List.all_cons,Bool.and_eq_true]at h;obtain⟨places,h1,h2⟩:=DR r h.2
   cases hi:P.info? f.type with
   |none=>rw [hi]at h;cases h.1
   |some i =>
     refine⟨(f.offset,i.size)::places,by simp [List.mapM_cons,hi,h1],fun j f' hj i' hi'=>?_⟩
     cases j with
     |zero=>simp at hj;subst hj;rw [hi]at hi';cases hi';rfl
     |succ j=>simp at hj ⊢;exact h2 j f' hj i' hi'
theorem Wi {T:TypeId} {parts:Array (Nat×Operand)} {ps:List (Nat×SV)} {vs:List (Nat×Value)} (hv:XK.kU (dO a) parts.toList=some vs) (hd:uh m ids ps vs) :
   iR (Rl E T ps) (iM E m ids a ⟨d,.build T parts,ty,pos,af,g⟩):=by
 unfold Rl;split
 ·rename_i fs _ _ _ z _ hT;obtain⟨F,h1,rfl,h2⟩:=fK hT;have hi:=iN hT;simp only at hi;split
  ·rename_i cs hp;obtain⟨places,h3,h4⟩:=DR F.toList h2
   have hpl:∀ f o T k,nth (F.toList.map fun f=>(f.offset,f.type)) f=some (o,T)->nO E T=some k->places.toArray[f]?=some (o,k):=by
     intro f o T' k hf hk;rw [pE,List.getElem?_map,Option.map_eq_some_iff]at hf;obtain⟨fd,h5,h6⟩:=hf;rw [Prod.mk.injEq]at h6;obtain⟨z',b',h7⟩:=gY hk;obtain⟨inf,h8,_,h9,_⟩:=h7.ex;rw [<- h6.2]at h8;have:=h4 f fd h5 inf h8;rw [h6.1,h9]at this;simpa using this
   obtain⟨cells,h5,h6⟩:=JI hpl (cells:=z.cells) hp hd (oq _);obtain⟨inf,h7,h8,_⟩:=hi.ex;refine .of (v:=.agg cells) (by rw [Den];exact⟨cells.toList,by simp,h6⟩) (dx (gG.build hv ?_))
   unfold Program.built;simp only [h7,h8,h1,h3];exact h5
  ·exact True.intro
 ·rename_i n e _ _ _ z _ hT;have h1:E.P.underlying T=some (.array n e):=fK hT;have hi:=iN hT;simp only at hi;split
  ·rename_i k hk;split
   ·rename_i cs hp;obtain⟨z',b',h2⟩:=gY hk;obtain⟨inf',h3,_,h4,_⟩:=h2.ex;obtain⟨cells,h5,h6⟩:=yt (place:=fun i=>some (i*k,k)) (fun _=>rfl) (cells:=z.cells) hp hd (oq _)
    obtain⟨inf,h7,h8,_⟩:=hi.ex;refine .of (v:=.agg cells) (by rw [Den];exact⟨cells.toList,by simp,h6⟩) (dx (gG.build hv ?_))
    unfold Program.built;simp only [h7,h8,h1,h3,h4];exact h5
   ·exact True.intro
  ·exact True.intro
 ·exact True.intro
theorem Vy {q:Bool} {s t:SV} {kx ky:Operand} {u v:Value} (hs:q=true->Den m ids s u) (ht:q=false->Den m ids t v) (hx:∀ p,kx=.const (.bool p)->s=.b p) (hy:∀ p,ky=.const (.bool p)->t=.b p) :
   iR (QD q s t kx ky) (fun r=>Den m ids r (bif q then u else v)):=by
 unfold QD;split
 ·split
  ·cases hy false rfl;cases q
   ·exact ht rfl
   ·exact hs rfl
  ·cases hx true rfl;cases q
   ·exact ht rfl
   ·exact hs rfl
  ·cases q
   ·exact ht rfl
   ·exact hs rfl
 ·cases q
  ·exact ht rfl
  ·exact hs rfl
 ·cases q
  ·exact ht rfl
  ·exact hs rfl
 ·exact True.intro
end
section
variable {E:En} {C:Cx} {σ:St} {m:Mm} {ids aO:List Value} {a:Act} {π:Path} {d:Option Tmp} {ty:TypeId} {pos:String} {af:Array Edge} {g:Option (Nat×Bool)}
theorem nW {t:Nat} {b:Bool} (h:Holds a π) (ht:a.tmps.getD t undef=.bool b):Holds a (π++[(t,b)]):=fun g hg=>by
 rcases List.mem_append.1 hg with h1|h1
 ·exact h g h1
 ·simp at h1;subst h1;exact ht
theorem MP {p:Bool}:yH (.bool p)=.b p:=rfl
theorem OQ {x:Operand} {p:Bool} {s:SV} (hx:x=.const (.bool p)) (h:σ.ev E π x=some s):s=.b p:=by
 subst hx;simp only [St.ev,MP,Option.some.injEq]at h;exact h.symm
theorem Yz (hS:Sat C σ m ids a) (hG:lU E.G m) (hh:Holds a π) {c x y:Operand}:iR (YA E σ π c x y) (iM E m ids a ⟨d,.pick c x y,ty,pos,af,g⟩):=by
 have run:∀ (q:Bool) (s:SV),a.eval c=.bool q->Den m ids s (bif q then a.eval x else a.eval y)->iM E m ids a ⟨d,.pick c x y,ty,pos,af,g⟩ s:=fun q s hc hd=>.of hd fun w=>by
   simp only [execOp,hc,asBool,Sem.run_bind,Sem.run_pure,Result.andThen_ok];cases q<;>exact⟨rfl,rfl⟩
 unfold YA;split
 ·rename_i t;split
  ·rename_i hk;have ht:a.eval (.tmp t)=.bool true:=hS.kn t true hk;split
   ·rename_i s hs;obtain⟨v,_,e,h⟩:=hS.toSatF.ev hG hh hs;subst e;exact run true s ht h
   ·exact True.intro
  ·rename_i hk;have ht:a.eval (.tmp t)=.bool false:=hS.kn t false hk;split
   ·rename_i s hs;obtain⟨v,_,e,h⟩:=hS.toSatF.ev hG hh hs;subst e;exact run false s ht h
   ·exact True.intro
  ·split
   ·rename_i q sx sy hq hx hy;obtain⟨_,hden⟩:=hS.toSatF.slot hh hq;rw [Den]at hden;have ht:a.eval (.tmp t)=.bool q:=hden;refine(Vy (q:=q) (u:=a.eval x) (v:=a.eval y) (fun e=>?_) (fun e=>?_) (fun p hp=>OQ hp hx) (fun p hp=>OQ hp hy)).mono fun s h=>run q s ht h
    ·subst e;obtain⟨v,_,e,h⟩:=hS.toSatF.ev hG (nW hh hden) hx;subst e;exact h
    ·subst e;obtain⟨v,_,e,h⟩:=hS.toSatF.ev hG (nW hh hden) hy;subst e;exact h
   ·exact True.intro
 ·exact True.intro
theorem VA {T:TypeId} {x:Operand} {r:PR} (h:iR r (fun s=>∃ v,Den m ids s v/\∀ w,Ext m.w w->kD E.P v w ((execOp a.eval ⟨d,.load T x,ty,pos,af,g⟩).run E.P w))):iR r (iM E m ids a ⟨d,.load T x,ty,pos,af,g⟩) :=
 h.mono fun _ ⟨v,h1,h2⟩=>⟨v,h1,fun h=>by simp [looks]at h,h2⟩
theorem Zp {x:Operand} {ts:Array TypeId} {r:PR} (h:iR r (fun s=>∃ v,Den m ids s v/\∀ w,Ext m.w w->kD E.P v w ((execOp a.eval ⟨d,.call ⟨.builtin .len,#[x],ts⟩,ty,pos,af,g⟩).run E.P w))):iR r (iM E m ids a ⟨d,.call ⟨.builtin .len,#[x],ts⟩,ty,pos,af,g⟩) :=
 h.mono fun _ ⟨v,h1,h2⟩=>⟨v,h1,fun h=>by simp [looks]at h,h2⟩
theorem Sj (K lo hi:Nat) (a:Option Addr) (n c:Nat):uz K lo hi (.slice a n c)=XK.H6 K (XK.Nu (.slice a n c) hi) lo:=rfl
theorem eH.take {α:Type} {K:Nat} {D:α->List CP} {l:List α} {bC:List (List Value)} (h:eH K D m l bC) (n:Nat):eH K D m (l.take n) (bC.take n) :=
 ⟨by simp [h.1],fun us hu=>h.2.1 us (List.mem_of_mem_take hu),fun i x hx=>by
   rw [List.getElem?_take]at hx ⊢;split at hx
   ·rename_i hi;rw [if_pos hi];exact h.2.2 i x hx
   ·cases hx⟩
theorem eH.drop {α:Type} {K:Nat} {D:α->List CP} {l:List α} {bC:List (List Value)} (h:eH K D m l bC) (n:Nat):eH K D m (l.drop n) (bC.drop n) :=
 ⟨by simp [h.1],fun us hu=>h.2.1 us (List.mem_of_mem_drop hu),fun i x hx=>by
   rw [List.getElem?_drop]at hx ⊢
   exact h.2.2 _ x hx⟩
theorem tV {K:Nat}:∀ {bC:List (List Value)} (n:Nat),(∀ us∈bC,us.length=K)->(bC.take n).flatten=bC.flatten.take (n*K)
 |_,0,_=>by simp
 |[],n+1,_=>by simp
 |c::r,n+1,h=>by
   have hc:=h c (List.mem_cons_self ..);have e1:c.take ((n+1)*K)=c:=List.take_of_length_le (by rw [hc,Nat.add_mul];omega)
   rw [List.take_succ_cons,List.flatten_cons,List.flatten_cons,tV n fun us hu=>h us (List.mem_cons_of_mem _ hu),List.take_append,e1,hc,show(n+1)*K-K=n*K by rw [Nat.add_mul];omega]
theorem yG {K:Nat}:∀ {bC:List (List Value)} (n:Nat),(∀ us∈bC,us.length=K)->(bC.drop n).flatten=bC.flatten.drop (n*K)
 |_,0,_=>by simp
 |[],n+1,_=>by simp
 |c::r,n+1,h=>by
   have hc:=h c (List.mem_cons_self ..);have e1:c.drop ((n+1)*K)=[]:=List.drop_eq_nil_of_le (by rw [hc,Nat.add_mul];omega)
   rw [List.drop_succ_cons,List.flatten_cons,yG n fun us hu=>h us (List.mem_cons_of_mem _ hu),List.drop_append,e1,hc,List.nil_append,show(n+1)*K-K=n*K by rw [Nat.add_mul];omega]
theorem Ul {K lo hi b:Nat} {ad:Option Addr} {n cp:Nat} (h:jI (uz K lo hi (.slice ad n cp))=some b):jI (.slice ad n cp)=some b:=by
 unfold uz at h
 cases ad with
 |none =>
   simp only [Option.map_none,ite_self]at h;cases h
 |some ad =>
   by_cases hc:cp=lo
   ·simp only [hc,if_true]at h;exact h
   ·simp only [hc,if_false,Option.map_some,jI,Addr.add]at h ⊢;split at h<;>exact h
theorem uJ {c:Nat} {l:Li c} {bC:List (List Value)} {lo hi:Nat} {ad:Option Addr} {n cp:Nat} {w:World} (h1:Reads w (KT c) (.slice ad n cp) l.length bC.flatten) (h2:eH (KT c) (eu c) m l bC) (h3:lo<=hi) (h4:hi<=l.length) :
   Reads w (KT c) (uz (KT c) lo hi (.slice ad n cp)) ((l.drop lo).take (hi-lo)).length ((bC.drop lo).take (hi-lo)).flatten/\eH (KT c) (eu c) m ((l.drop lo).take (hi-lo)) ((bC.drop lo).take (hi-lo)):=by
 refine⟨?_,(h2.drop lo).take _⟩;have r:=(h1.Nu h4).H6 h3;rw [Sj];have e1:((l.drop lo).take (hi-lo)).length=hi-lo:=by simp;omega
 have hk:=h2.2.1;rw [e1]
 have e2:((bC.drop lo).take (hi-lo)).flatten=(bC.flatten.take (hi*KT c)).drop (lo*KT c):=by
   rw [tV _ fun us hu=>hk us (List.mem_of_mem_drop hu),yG _ hk,List.take_drop,<- Nat.add_mul,show lo+(hi-lo)=hi by omega]
 rw [e2];exact r
theorem KX (hS:Sat C σ m ids a) {c:Nat} {s:SV} {l:Li c} {y:Value} (h:Jv σ c s=some l) (hd:Den m ids s y) :
   ∃ bC,Reads m.w (KT c) y l.length bC.flatten/\eH (KT c) (eu c) m l bC:=by
 unfold Jv at h;split at h
 ·rename_i z c' l';obtain⟨e,h⟩:=dU h;subst e;cases h;rw [Den]at hd;obtain⟨bC,h1,h2,_⟩:=hd;exact⟨bC,h1,h2⟩
 ·cases h;cases oM hd;exact⟨[],⟨by simp,.inl ⟨⟨_,rfl⟩,rfl⟩⟩,eH.nil⟩
 ·rename_i i;rw [Den]at hd;split at h
  ·rename_i _ _ c' l' hi;obtain⟨e,h⟩:=dU h;subst e;cases h;obtain⟨v,bC,h1,h2,h3,_⟩:=hS.heap.sat i _ hi;rw [hd.1]at h1;cases h1;exact⟨bC,h2.reads,h3⟩
  ·rename_i _ c' l' hi;obtain⟨e,h⟩:=dU h;subst e;cases h;obtain⟨v,h1,bC,h2,h3,_⟩:=hS.heap.sat i _ hi;rw [hd.1]at h1;cases h1;exact⟨bC,h2,h3⟩
  ·cases h
 ·rename_i i c0 lo hi;split at h
  ·rename_i hc0;have hc0:=dI hc0;subst hc0;rw [Den]at hd;obtain⟨ad,n,cp,hid,h0,h1,h2,_,_,_,rfl⟩:=hd;split at h
   ·rename_i _ _ c' l' hl;split at h
    ·rename_i l2 hcast;obtain⟨e,hcast⟩:=dU hcast;subst e;cases hcast;cases h;obtain⟨v,bC,h3,h4,h5,_⟩:=hS.heap.sat i _ hl;rw [hid]at h3;cases h3;have hr:=h4.reads;obtain⟨_,_,e,_⟩:=hr.len;injection e with _ e2 _
     have:=uJ (lo:=lo.toNat) (hi:=hi.toNat) hr h5 au au
     rw [show(hi-lo).toNat=hi.toNat-lo.toNat by omega]
     exact⟨_,this⟩
    ·cases h
   ·rename_i _ c' l' hl;split at h
    ·rename_i l2 hcast;obtain⟨e,hcast⟩:=dU hcast;subst e;cases hcast;cases h;obtain⟨v,h3,bC,h4,h5,_⟩:=hS.heap.sat i _ hl;rw [hid]at h3;cases h3;obtain⟨_,_,e,_⟩:=h4.len;injection e with _ e2 _
     have:=uJ (lo:=lo.toNat) (hi:=hi.toNat) h4 h5 au au
     rw [show(hi-lo).toNat=hi.toNat-lo.toNat by omega]
     exact⟨_,this⟩
    ·cases h
   ·cases h
  ·cases h
 ·rename_i i c0 N lo hi;split at h
  ·rename_i hc0;have hc0:=dI hc0;subst hc0;rw [Den]at hd;obtain⟨b,hid,h0,h1,h2,h6,rfl⟩:=hd;split at h
   ·rename_i _ N' c' l' hl;split at h
    ·rename_i l2 hcast hN;have hN:=dI hN;obtain⟨e,hcast⟩:=dU hcast;subst e;cases hcast;cases h;obtain⟨b',bC,h3,h4,h5,h7⟩:=hS.heap.sat i _ hl;rw [hid]at h3;cases h3
     have hr:Reads m.w (KT c') (.slice (some ⟨b,0,none⟩) N N) l'.length bC.flatten:=by
       have:=Reads.of_row (size:=KT c') (n:=l'.length) h4 h5.flat (by unfold maxLen;omega)
       rw [h7,<- hN]at this ⊢;exact this
     have:=uJ (lo:=lo.toNat) (hi:=hi.toNat) hr h5 au au
     rw [show(hi-lo).toNat=hi.toNat-lo.toNat by omega]
     exact⟨_,this⟩
    ·cases h
   ·cases h
  ·cases h
 ·cases h
theorem Ii:∀ {l:List UInt8} {bC:List (List Value)},eH (KT 3) (eu 3) m l bC->bC.flatten=l.map fun b=>Value.int .u8 b.toNat
 |[],bC,h=>by
   have:bC=[]:=List.eq_nil_of_length_eq_zero h.1;subst this;rfl
 |x::l,bC,h=>by
   cases bC with
   |nil=>exact absurd h.1 (by simp)
   |cons c r =>
     obtain⟨us,h1,h2⟩:=h.2.2 0 x rfl;simp only [List.getElem?_cons_zero,Option.some.injEq]at h1;subst h1;obtain⟨u,us',rfl,h3,h4⟩:=h2;have h3:u=.int .u8 x.toNat:=h3;have h4:us'=[]:=h4;subst h3 h4;have ih:=Ii (l:=l) (bC:=r) ⟨Nat.succ.inj h.1,fun us hu=>h.2.1 us (List.mem_cons_of_mem _ hu),fun i y hy=>h.2.2 (i+1) y hy⟩
     simp [ih]
theorem foldl_push:∀ (l:List UInt8) (s:ByteArray),((l.map fun b=>(b.toNat:Int)).foldl (fun r n=>r.push (UInt8.ofNat n.toNat)) s)=⟨s.data++l.toArray⟩
 |[],s=>by simp
 |x::l,s=>by
   rw [List.map_cons,List.foldl_cons,foldl_push l];simp [ByteArray.push]
theorem Mv {T:TypeId} (h:isBytes E T=true):∃ e,E.P.underlying T=some (.slice e)/\E.P.underlying e=some (.int .u8):=by
 unfold isBytes at h;split at h
 ·rename_i e _ _ _ _ _ hT;split at h
  ·rename_i hE;exact⟨e,fK hT,fK hE⟩
  ·cases h
 ·cases h
theorem uR {T:TypeId} (h:isStr E T=true):E.P.underlying T=some .string:=by
 unfold isStr at h;split at h
 ·rename_i hT;exact fK hT
 ·cases h
theorem U5 {P:Program} {w:World} {y:Value} {l:List UInt8} (h6:Reads w (KT 3) y l.length (l.map fun b=>Value.int .u8 b.toNat)):(Conv.bytesToString y).run P w=.ok (.string (ofBytes l)) w:=by
 obtain⟨b,c,rfl,_⟩:=h6.len
 cases b with
 |none =>
   rcases h6.2 with ⟨_,h7⟩|⟨_,_,_,h7,_⟩
   ·have:l=[]:=List.eq_nil_of_length_eq_zero h7;subst this;simp [Conv.bytesToString,ofBytes];rfl
   ·cases h7
 |some ad =>
   have hl2:(loadCells ad l.length).run P w=.ok ((l.map fun b=>(b.toNat:Int)).map (Value.int .u8)).toArray w:=by
     rcases h6.2 with ⟨_,h7⟩|⟨b',o,c',h7,_,_,h8⟩
     ·rw [h7];have:l=[]:=List.eq_nil_of_length_eq_zero h7;subst this;simp [loadCells,loadCellsFrom]
     ·cases h7;have h9:=nS (P:=P) w b' o _ h8;rw [List.map_map];rw [List.length_map]at h9;exact h9
   rw [run_bytesToString w ad l.length c _ hl2,foldl_push];simp [ofBytes]
theorem bstrE_ok (hS:Sat C σ m ids a) {S T:TypeId} {x:Operand} {s:SV} {u:Value} (h1:isBytes E S=true) (h2:isStr E T=true) (hx:XK.ev (dO a) x=some u) (hs:Den m ids s u) :
   iR (bstrE σ s) (iM E m ids a ⟨d,.convert S T x,ty,pos,af,g⟩):=by
 have e1:=(aR a).ev hx;obtain⟨e,hu,he⟩:=Mv h1;have hd:=uR h2;unfold bstrE;split
 ·rename_i l hl;intro hle;obtain⟨bC,h3,h4⟩:=KX hS hl hs;have h5:=Ii h4;refine⟨.string (ofBytes l),by rw [Den];exact⟨rfl,by unfold oo;have:(ofBytes l).size=l.length:=rfl;omega⟩,fun h=>by simp [looks,h1]at h,fun w hw=>?_⟩
  have h6:=h3.ext hw;rw [h5]at h6;have hr:=U5 (P:=E.P) (l:=l) h6;obtain⟨b,c,rfl,_⟩:=h6.len;simp only [execOp,e1,Sem.run_bind,run_convert_bytes_string w S T e b l.length c hu he hd,hr,Result.andThen_ok,Sem.run_pure];exact⟨rfl,Ext.refl _⟩
 ·exact True.intro
theorem lY (hS:Sat C σ m ids a) (hG:lU E.G m) {x:Option Operand} {n i:Int} (h:Jh E σ x n=some i):(x=none/\i=n)\/∃ k,x.map a.eval=some (.int k i):=by
 unfold Jh at h;split at h
 ·cases h;exact .inl ⟨rfl,rfl⟩
 ·rename_i x;split at h
  ·rename_i s hs;obtain⟨v,_,e,h2⟩:=hS.toSatF.ev hG (fun g hg=>by cases hg) hs
   obtain⟨k,rfl⟩:=Dq h h2;exact .inr ⟨k,by simp [e]⟩
  ·cases h
theorem uH {P:Program} {w:World} {isS:Bool} {len cap:Nat} {low high:Option Value} {i j:Int} (hl:(low=none/\i=0)\/∃ k,low=some (.int k i)) (hh:(high=none/\j=len)\/∃ k,high=some (.int k j)) (h0:0<=i) (h1:i<=j) (h2:j<=len) (h3:len<=cap) :
   (Instr.sliceBounds isS len cap low high none).run P w=.ok (i.toNat,j.toNat,cap) w:=by
 have sb:∀ (k:IntKind) (n:Int) (y:Nat) (c:BoundsCode),0<=n->n<=y->(Instr.sliceBound (.int k n) y c).run P w=.ok n.toNat w:=fun k n y c q0 q1=>by
   simp only [Instr.sliceBound,asIntOf,Sem.run_bind,Sem.run_pure,Result.andThen_ok];rw [if_pos ⟨q0,q1⟩];rfl
 unfold Instr.sliceBounds;rcases hl with ⟨rfl,rfl⟩|⟨k,rfl⟩<;>rcases hh with ⟨rfl,rfl⟩|⟨k',rfl⟩
 ·simp
 ·simp only [Sem.run_bind,Sem.run_pure,Result.andThen_ok];rw [sb k' j cap _ au au]
  simp
 ·simp only [Sem.run_bind,Sem.run_pure,Result.andThen_ok];rw [sb k i len _ h0 au]
  simp
 ·simp only [Sem.run_bind,Sem.run_pure,Result.andThen_ok];rw [sb k' j cap _ au au]
  simp only [Result.andThen_ok];rw [sb k i j.toNat _ h0 au]
  simp
theorem iW {T e:TypeId} {i:Jj} (h:pV E T=some (e,i)):E.P.underlying T=some (.slice e)/\E.TI e=some i/\KT i.code=i.size/\BT i.code=i.bytes:=by
 unfold pV at h;split at h
 ·rename_i e' _ _ _ _ _ hT;split at h
  ·rename_i i' hi;split at h
   ·rename_i q1 q2;cases h;exact⟨fK hT,hi,dI q1,dI q2⟩
   ·cases h
  ·cases h
 ·cases h
theorem U1 (hS:Sat C σ m ids a) (hG:lU E.G m) {T:TypeId} {x:Operand} {lo hi:Option Operand} {s:SV} {u:Value} (hx:XK.ev (dO a) x=some u) (hs:Den m ids s u) :
   iR (P9 E σ T s lo hi) (iM E m ids a ⟨d,.slice T x lo hi none,ty,pos,af,g⟩):=by
 have e1:=(aR a).ev hx
 have run:∀ (v:Value),(∀ w,(Instr.sliceAt T u (lo.map a.eval) (hi.map a.eval) none).run E.P w=.ok v w)->Sl E.P a ⟨d,.slice T x lo hi none,ty,pos,af,g⟩ v:=fun v h w=>by
   simp only [execOp,e1,Sem.run_bind,Option.map_none,h w,Result.andThen_ok,Sem.run_pure];exact⟨rfl,rfl⟩
 unfold P9;split
 ·rename_i b hT;have hu:E.P.underlying T=some .string:=fK hT;split
  ·rename_i i j hi' hj';rw [Den]at hs;obtain⟨rfl,hsz⟩:=hs;refine⟨hsz,fun⟨h0,h1,h2⟩=>?_⟩
   have bl:=lY hS hG hi';have bh:=lY hS hG hj';refine .of (v:=.string (b.extract i.toNat j.toNat)) (by rw [Den];exact⟨rfl,by rw [ByteArray.size_extract];omega⟩) (run _ fun w=>?_)
   have hb:=uH (P:=E.P) (w:=w) (isS:=false) (len:=b.size) (cap:=b.size) (low:=lo.map a.eval) (high:=hi.map a.eval) (i:=i) (j:=j) (bl.imp (fun h=>⟨by rw [h.1];rfl,h.2⟩) id) (bh.imp (fun h=>⟨by rw [h.1];rfl,h.2⟩) id) h0 h1 h2 (Nat.le_refl _)
   simp [Instr.sliceAt,Instr.slice,run_underlying hu,hb]
  ·exact True.intro
 ·rename_i e0 _ _ _ _ _ z c l hT;split
  ·rename_i e i' he;obtain⟨hu,hE,hK,hB⟩:=iW he;split
   ·rename_i i j hc hi' hj';have hc:=dI hc;rw [Den]at hs;obtain⟨bC,h1,h2,h3,h4,h5⟩:=hs;refine⟨⟨h5,jC h5⟩,fun⟨q0,q1,q2⟩=>?_⟩
    have bl:=lY hS hG hi';have bh:=lY hS hG hj';obtain⟨ad,cp,rfl,hcp,_⟩:=h1.len;have hp:=uJ (lo:=i.toNat) (hi:=j.toNat) h1 h2 au au
    rw [show j.toNat-i.toNat=(j-i).toNat by omega]at hp
    refine .of (v:=uz (KT c) i.toNat j.toNat (.slice ad l.length cp)) ?_ (run _ fun w=>?_)
    ·rw [Den];refine⟨_,hp.1,hp.2,fun hne b hb=>?_,trivial,?_⟩
     ·exact h3 (fun e=>hne (by rw [e];simp)) b (Ul hb)
     ·rw [List.length_take,List.length_drop];exact Nat.le_trans (Nat.mul_le_mul_right _ au) h5
    ·have hb:=uH (P:=E.P) (w:=w) (isS:=true) (len:=l.length) (cap:=cp) (low:=lo.map a.eval) (high:=hi.map a.eval) (i:=i) (j:=j) (bl.imp (fun h=>⟨by rw [h.1];rfl,h.2⟩) id) (bh.imp (fun h=>⟨by rw [h.1];rfl,h.2⟩) id) q0 q1 q2 hcp
     have hin:=iN hE;obtain⟨inf,h6,_,h7,_⟩:=hin.ex;simp [Instr.sliceAt,Instr.slice,run_underlying hu,hb,sizeOf,typeInfo,h6,h7,uz,<- hK,hc]
   ·exact True.intro
  ·exact True.intro
 ·rename_i e0 _ _ _ _ _ jn hT;split
  ·rename_i e i' _ _ c l he hl;obtain⟨hu,hE,hK,hB⟩:=iW he;split
   ·rename_i i j hc hi' hj';have hc:=dI hc;rw [Den]at hs;obtain⟨v,bC,h1,h2,h3,h4,h5⟩:=hS.heap.sat jn _ hl;rw [hs.1]at h1;cases h1;refine⟨⟨h5,jC h5⟩,fun⟨q0,q1,q2⟩=>?_⟩
    have bl:=lY hS hG hi';have bh:=lY hS hG hj';have hr:=h2.reads;obtain⟨ad,cp,rfl,hcp,_⟩:=hr.len;refine .of (v:=uz (KT c) i.toNat j.toNat (.slice ad l.length cp)) ?_ (run _ fun w=>?_)
    ·rw [Den];refine⟨ad,l.length,cp,hs.1,q0,q1,q2,fun hn=>?_,hcp,jC h5,rfl⟩
     obtain⟨b,o,c',e',_⟩:=hr.has hn;injection e' with e' _ _
     exact⟨b,o,e'⟩
    ·have hb:=uH (P:=E.P) (w:=w) (isS:=true) (len:=l.length) (cap:=cp) (low:=lo.map a.eval) (high:=hi.map a.eval) (i:=i) (j:=j) (bl.imp (fun h=>⟨by rw [h.1];rfl,h.2⟩) id) (bh.imp (fun h=>⟨by rw [h.1];rfl,h.2⟩) id) q0 q1 q2 hcp
     have hin:=iN hE;obtain⟨inf,h6,_,h7,_⟩:=hin.ex;simp [Instr.sliceAt,Instr.slice,run_underlying hu,hb,sizeOf,typeInfo,h6,h7,uz,<- hK,hc]
   ·exact True.intro
  ·exact True.intro
 ·rename_i n e _ _ _ _ _ jn hT;have hu:E.P.underlying T=some (.array n e):=fK hT;split
  ·rename_i _ N c l hl;split
   ·rename_i k hk;split
    ·rename_i i j hkc hN hi' hj';have hkc:=dI hkc;have hN:=dI hN;subst hN;rw [Den]at hs;obtain⟨b,hid,rfl⟩:=hs;intro ⟨⟨q0,q1,q2⟩,q3⟩;have bl:=lY hS hG hi';have bh:=lY hS hG hj';refine .of (v:=uz (KT c) i.toNat j.toNat (.slice (some ⟨b,0,none⟩) n n)) (by rw [Den];exact⟨b,hid,q0,q1,q2,q3,rfl⟩) (run _ fun w=>?_)
     have hb:=uH (P:=E.P) (w:=w) (isS:=false) (len:=n) (cap:=n) (low:=lo.map a.eval) (high:=hi.map a.eval) (i:=i) (j:=j) (bl.imp (fun h=>⟨by rw [h.1];rfl,h.2⟩) id) (bh.imp (fun h=>⟨by rw [h.1];rfl,h.2⟩) id) q0 q1 q2 (Nat.le_refl _)
     obtain⟨zv,bb,hin⟩:=gY hk;obtain⟨inf,h6,_,h7,_⟩:=hin.ex;simp only [Instr.sliceAt,Instr.sureAddr,Sem.run_bind,run_underlying hu,Result.andThen_ok,Sem.run_pure,hb,sizeOf,typeInfo];simp [h6,h7,hkc,uz];split<;>rfl
    ·exact True.intro
   ·exact True.intro
  ·exact True.intro
 ·exact True.intro
theorem AU {kc vc:Nat} (x:ah kc):∀ (l:List (ah kc×ah vc)),D9 (l.map fun p=>(p.1,TV vc p.2)) x=(jA l x).map (TV vc)
 |[]=>rfl
 |(k,u)::r=>by
   rw [List.map_cons,Vx,jA,AU x r];split<;>rfl
theorem JQ {kc vc:Nat} {x:ah kc}:∀ {l:List (ah kc×ah vc)} {y:ah vc},jA l x=some y->∃ p∈l,p.2=y
 |[],_,h=>by cases h
 |(k,u)::r,y,h=>by
   rw [jA]at h;split at h
   ·cases h;exact⟨_,List.mem_cons_self ..,rfl⟩
   ·obtain⟨p,h1,h2⟩:=JQ h;exact⟨p,List.mem_cons_of_mem _ h1,h2⟩
theorem zSV_den (v:Value):Den m ids (zSV v) v:=by
 unfold zSV;split
 ·rw [Den];exact⟨_,rfl,oq _⟩
 ·exact xI _
theorem Uc {c:Nat}:∀ {l:Li c} {bC:List (List Value)} {cs:List SV},esL c l=some cs->eH (KT c) (eu c) m l bC->aC m ids cs bC.flatten
 |[],bC,cs,h,he=>by
   simp only [esL,Option.some.injEq]at h;subst h;have:bC=[]:=List.eq_nil_of_length_eq_zero he.1;subst this;rw [aC];rfl
 |x::r,bC,cs,h,he=>by
   simp only [esL]at h;split at h
   ·rename_i a b h1 h2;cases h
    cases bC with
    |nil=>have:=he.1;simp at this
    |cons us ur =>
      rw [List.flatten_cons];refine aC.append ?_ (Uc h2 ⟨by have:=he.1;simpa using this,fun q hq=>he.2.1 q (List.mem_cons_of_mem _ hq),fun i y hy=>?_⟩)
      ·obtain⟨us',h3,h4⟩:=he.2.2 0 x rfl;cases h3;exact(nI c x h1).1 h4
      ·exact he.2.2 (i+1) y hy
   ·cases h
theorem vX {s:SV} {y:Value} (h:Den m ids s y):Den m ids (PV s) y:=by
 unfold PV;split
 ·rename_i c N l;split
  ·rename_i cs hcs;rw [Den]at h;obtain⟨bC,rfl,h1,_⟩:=h;rw [Den];exact⟨bC.flatten,rfl,Uc hcs h1⟩
  ·exact h
 ·exact h
theorem Zm (hS:Sat C σ m ids a) {T:TypeId} {x y:Operand} {ok:Bool} {s t:SV} {u v:Value} (hx:XK.ev (dO a) x=some u) (hy:XK.ev (dO a) y=some v) (hs:Den m ids s u) (ht:Den m ids t v) :
   iR (Zn E σ T s t ok) (iM E m ids a ⟨d,.lookup T x y ok,ty,pos,af,g⟩):=by
 unfold Zn;split
 ·rename_i kt vt _ _ _ _ _ i hT;have hu:E.P.underlying T=some (.map kt vt):=fK hT;split
  ·rename_i kc vc l iv hl hV;split
   ·rename_i q z hKO hgk hq hzc hg;have hkey:=E.hK _ _ hKO;rw [Den]at hs;obtain⟨b,h1,h2,h3⟩:=hS.heap.sat i _ hl;rw [hs.1]at h1;cases h1;obtain⟨hv,_⟩:=GV kc hgk hq ht;subst hv;have hin:=iN hV
    have hz2:iv.z=TV vc z/\DL (eu vc z) m (TV vc z).cells.toList:=by
      unfold zeroV at hzc;rw [hV]at hzc;have q:=GV (ids:=[]) (m:=m) vc hg hzc (zSV_den iv.z);exact⟨q.1,by rw [<- q.1];exact q.2⟩
    have hval:∀ r:Value,r=(D9 (l.map fun p=>(p.1,TV vc p.2)) q).getD iv.z->Den m ids (VS vc ((jA l q).getD z)) r:=by
      intro r hr;subst hr;rw [AU]
      cases hm:jA l q with
      |none =>
        rw [Option.map_none,Option.getD_none,Option.getD_none,hz2.1];exact VS_ok vc hg hz2.2
      |some w0 =>
        obtain⟨p,h4,h5⟩:=JQ hm;rw [Option.map_some,Option.getD_some,Option.getD_some,<- h5];exact VS_ok vc hg (h3 p h4)
    cases ok with
    |false =>
      refine⟨_,hval _ rfl,fun h=>by simp [looks]at h,fun w hw=>?_⟩
      exact M6.lookup (wc:=m.w) hu hkey hin hx hy h2 a _ (aR a) w hw
    |true =>
      refine⟨_,by rw [Den];exact⟨[_,_],rfl,by rw [aC];exact⟨_,_,rfl,hval _ rfl,by rw [aC];exact⟨_,_,rfl,pW _,by rw [aC]⟩⟩⟩,fun h=>by simp [looks]at h,fun w hw=>?_⟩
      have:=M6.Zl (wc:=m.w) (d:=d) (ty:=ty) (pos:=pos) (af:=af) (g:=g) hu hkey hin hx hy h2 a _ (aR a) w hw;rw [AU,Option.isSome_map]at this;rw [AU];exact this
   ·exact True.intro
  ·exact True.intro
 ·exact True.intro
theorem NV {E:En} {T:TypeId} {i:Jj} (h0:∀ a b c d e,i=⟨.iface,a,b,c,d,e⟩->False) (hT:E.TI T=some i):∃ D,E.P.underlying T=some D/\∀ ms,D≠.interface ms:=by
 have hk:=fK hT;cases hkn:i.kn<;>rw [hkn]at hk<;>simp only [Jp]at hk
 case bool=>exact⟨_,hk,fun _ h=>by cases h⟩
 case int=>exact⟨_,hk,fun _ h=>by cases h⟩
 case str=>exact⟨_,hk,fun _ h=>by cases h⟩
 case slice=>exact⟨_,hk,fun _ h=>by cases h⟩
 case arr=>exact⟨_,hk,fun _ h=>by cases h⟩
 case aV=>obtain⟨F,h,_⟩:=hk;exact⟨_,h,fun _ h=>by cases h⟩
 case map=>exact⟨_,hk,fun _ h=>by cases h⟩
 case iface=>cases i;cases hkn;exact(h0 _ _ _ _ _ rfl).elim
 case Ja =>
   cases hu:E.P.underlying T with
   |none=>rw [hu]at hk;cases hk
   |some D=>rw [hu]at hk;exact⟨D,rfl,fun ms e=>by subst e;cases hk⟩
theorem evP_ok (hS:Sat C σ m ids a) (hG:lU E.G m) (hh:Holds a π) {op:Op}:iR (evP E σ π op) (iM E m ids a ⟨d,op,ty,pos,af,g⟩):=by
 unfold evP;split
 ·rename_i x;split
  ·rename_i s hs;obtain⟨v,h1,_,h2⟩:=hS.toSatF.ev hG hh hs;exact .of h2 (dx (gG.move h1))
  ·exact True.intro
 ·rename_i x;split
  ·rename_i s hs;obtain⟨v,h1,_,h2⟩:=hS.toSatF.ev hG hh hs;exact .of h2 (dx (gG.assign h1))
  ·exact True.intro
 ·rename_i x
  have ptr:∀ (s:SV) (b:Addr),Den m ids s (.pointer (some b))->a.eval x=.pointer (some b)->iM E m ids a ⟨d,.nilCheck x,ty,pos,af,g⟩ s:=fun s b h e=>.of h fun w=>by
    simp [execOp,e,bf]
  split
  ·rename_i i o hs;obtain⟨v,_,e,h2⟩:=hS.toSatF.ev hG hh hs;obtain⟨b,h3,rfl⟩:=(by rw [Den]at h2;exact h2:∃ b,_/\v=.pointer (some ⟨b,o,none⟩))
   exact ptr _ _ h2 e
  ·rename_i cs o hs;obtain⟨v,_,e,h2⟩:=hS.toSatF.ev hG hh hs;have h3:=h2;rw [Den]at h3;obtain⟨b,q,us,rfl,_⟩:=h3;exact ptr _ _ h2 e
  ·rename_i c N l hs;obtain⟨v,_,e,h2⟩:=hS.toSatF.ev hG hh hs;have h3:=h2;rw [Den]at h3;obtain⟨b,q,us,rfl,_⟩:=h3;exact ptr _ _ h2 e
  ·rename_i i c k o hs;obtain⟨v,_,e,h2⟩:=hS.toSatF.ev hG hh hs;have h3:=h2;rw [Den]at h3;obtain⟨_,_,_,_,_,_,_,rfl⟩:=h3;exact ptr _ _ h2 e
  ·rename_i i c N k o hs;obtain⟨v,_,e,h2⟩:=hS.toSatF.ev hG hh hs;have h3:=h2;rw [Den]at h3;obtain⟨_,_,_,_,rfl⟩:=h3;exact ptr _ _ h2 e
  ·rename_i f fa fb hs;obtain⟨v,_,e,h2⟩:=hS.toSatF.ev hG hh hs;have h3:=h2;rw [Den]at h3;obtain⟨us,vs,rfl,_⟩:=h3;exact .of h2 fun w=>by simp [execOp,e,bf]
  ·rename_i t x hs;obtain⟨v,_,e,h2⟩:=hS.toSatF.ev hG hh hs;have h3:=h2;rw [Den]at h3;obtain⟨u,rfl,_⟩:=h3;exact .of h2 fun w=>by simp [execOp,e,bf]
  ·exact True.intro
 ·exact Yz hS hG hh
 ·split
  ·rename_i s t hs ht;obtain⟨u,h1,_,h2⟩:=hS.toSatF.ev hG hh hs;obtain⟨v,h3,_,h4⟩:=hS.toSatF.ev hG hh ht;exact binE_ok hS h1 h3 h2 h4
  ·exact True.intro
 ·split
  ·rename_i s hs;obtain⟨u,h1,_,h2⟩:=hS.toSatF.ev hG hh hs;exact unE_ok h1 h2
  ·exact True.intro
 ·split
  ·rename_i s hs;obtain⟨u,h1,_,h2⟩:=hS.toSatF.ev hG hh hs;split
   ·rename_i hb1 hb2;exact bstrE_ok hS hb1 hb2 h1 h2
   ·exact convE_ok h1 h2
  ·exact True.intro
 ·split
  ·rename_i s hs;obtain⟨u,h1,_,h2⟩:=hS.toSatF.ev hG hh hs;exact U1 hS hG h1 h2
  ·exact True.intro
 ·split
  ·rename_i s t hs ht;obtain⟨u,h1,_,h2⟩:=hS.toSatF.ev hG hh hs;obtain⟨v,h3,_,h4⟩:=hS.toSatF.ev hG hh ht;exact Zm hS h1 h3 h2 (vX h4)
  ·exact True.intro
 ·split
  ·rename_i s hs;obtain⟨u,h1,_,h2⟩:=hS.toSatF.ev hG hh hs;exact Jg h1 h2
  ·exact True.intro
 ·split
  ·rename_i s hs;obtain⟨u,h1,_,h2⟩:=hS.toSatF.ev hG hh hs;exact VY h1 h2
  ·exact True.intro
 ·split
  ·rename_i s t hs ht;split
   ·rename_i k hk;obtain⟨u,h1,_,h2⟩:=hS.toSatF.ev hG hh hs;obtain⟨v,h3,_,h4⟩:=hS.toSatF.ev hG hh ht;obtain⟨ik,rfl⟩:=Dq hk h4;exact VJ hS h1 h3 h2
   ·exact True.intro
  ·exact True.intro
 ·split
  ·rename_i s t hs ht;split
   ·rename_i k hk;obtain⟨u,h1,_,h2⟩:=hS.toSatF.ev hG hh hs;obtain⟨v,h3,_,h4⟩:=hS.toSatF.ev hG hh ht;obtain⟨ik,rfl⟩:=Dq hk h4;exact idxE_ok h1 h3 h2
   ·exact True.intro
  ·exact True.intro
 ·split
  ·rename_i s hs;obtain⟨u,h1,_,h2⟩:=hS.toSatF.ev hG hh hs;exact VA (Zo hS h1 h2)
  ·exact True.intro
 ·split
  ·rename_i l hs;split
   ·rename_i s hn;obtain⟨u,h1,_,h2⟩:=hS.toSatF.ev hG hh hs;rw [Den]at h2;obtain⟨us,rfl,h3⟩:=h2;rw [pE]at hn;obtain⟨v,h4,h5⟩:=h3.get hn;exact .of h5 (dx (gG.extract h1 (by simpa using h4)))
   ·exact True.intro
  ·exact True.intro
 ·split
  ·rename_i l hl;obtain⟨vs,h1,h2⟩:=hS.toSatF.kU hG hh hl;exact Wi h1 h2
  ·exact True.intro
 ·split
  ·rename_i x y hx hy;obtain⟨us,h1,h2⟩:=hS.toSatF.evs hG hh hx;obtain⟨vs,h3,h4⟩:=hS.toSatF.evs hG hh hy;exact .of (by rw [Den];exact⟨us,vs,rfl,h2,h4⟩) (dx (gG.makeFunc h1 h3))
  ·exact True.intro
 ·rename_i T x;split
  ·exact True.intro
  ·rename_i i s h0 hT hs;obtain⟨u,_,e,h2⟩:=hS.toSatF.ev hG hh hs;refine .of (v:=.iface T u) (by rw [Den];exact⟨u,rfl,h2⟩) fun w=>?_
   have hu:=NV (fun a b c d f e=>h0 a b c d f (by rw [e])) hT
   obtain⟨D,hu,hD⟩:=hu;simp only [execOp,e,Instr.makeInterface,Sem.run_bind,run_underlying hu,Result.andThen_ok];cases D<;>first|exact absurd rfl (hD _)|(simp [bf])
  ·exact True.intro
 ·rename_i x xt t;split
  ·exact True.intro
  ·rename_i i t' s h0 hT hs;split
   ·rename_i ht;have ht:=dI ht;subst ht;obtain⟨u,_,e,h2⟩:=hS.toSatF.ev hG hh hs;rw [Den]at h2;obtain⟨u,rfl,h2⟩:=h2;refine .of h2 fun w=>?_
    obtain⟨D,hu,hD⟩:=NV (fun a b c d f e=>h0 a b c d f (by rw [e])) hT
    simp only [execOp,e,Instr.typeAssert,Sem.run_bind,run_underlying hu,Result.andThen_ok];cases D<;>first|exact absurd rfl (hD _)|(simp [bf])
   ·exact True.intro
  ·exact True.intro
 ·rename_i xs ts;split
  ·rename_i x T hx hT;split
   ·rename_i s hs;obtain⟨u,h1,_,h2⟩:=hS.toSatF.ev hG hh hs;have e1:xs = #[x]:=Array.ext' (by simpa using hx)
    have e2:ts = #[T]:=Array.ext' (by simpa using hT)
    subst e1;exact Zp (lenE_ok hS e2 h1 h2)
   ·exact True.intro
  ·exact True.intro
 ·rename_i xs ts;split
  ·rename_i x y hx;split
   ·rename_i p q hs ht;obtain⟨u,h1,_,h2⟩:=hS.toSatF.ev hG hh hs;obtain⟨v,h3,_,h4⟩:=hS.toSatF.ev hG hh ht;have e1:xs = #[x,y]:=Array.ext' (by simpa using hx)
    subst e1;rw [Den]at h2 h4;obtain⟨rfl,h5⟩:=h2;obtain⟨rfl,h6⟩:=h4;exact .of (nC (by unfold lC at h5 h6 ⊢;omega)) (dx (gG.min h1 h3))
   ·exact True.intro
  ·exact True.intro
 ·rename_i xs ts;split
  ·rename_i x y hx;split
   ·rename_i p q hs ht;obtain⟨u,h1,_,h2⟩:=hS.toSatF.ev hG hh hs;obtain⟨v,h3,_,h4⟩:=hS.toSatF.ev hG hh ht;have e1:xs = #[x,y]:=Array.ext' (by simpa using hx)
    subst e1;rw [Den]at h2 h4;obtain⟨rfl,h5⟩:=h2;obtain⟨rfl,h6⟩:=h4;exact .of (nC (by unfold lC at h5 h6 ⊢;omega)) (dx (gG.max h1 h3))
   ·exact True.intro
  ·exact True.intro
 ·exact True.intro
end
end Go.SX
