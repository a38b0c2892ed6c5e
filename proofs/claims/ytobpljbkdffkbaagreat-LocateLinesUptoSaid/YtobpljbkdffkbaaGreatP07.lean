/- A part of the proof (texts SH). -/
import Derived.Laws.BytesString
import Derived.Test.YtobpljbkdffkbaaGreatP06
set_option linter.all false
set_option maxRecDepth 100000
namespace Go.SX
open Go.XK Go.RowKit
section
variable {E:En} {C:Cx} {σ:St} {m:Mm} {ids ids':List Value} {a:Act} {π:Path} {d:Option Tmp} {ty:TypeId} {pos:String} {af:Array Edge} {g:Option (Nat×Bool)}
theorem holds_snoc {t:Nat} {b:Bool} (h:Holds a π) (ht:a.tmps.getD t undef=.bool b):Holds a (π++[(t,b)]):=fun g hg=>by
 rcases List.mem_append.1 hg with h1|h1
 ·exact h g h1
 ·simp at h1;subst h1;exact ht
theorem constSV_bool {p:Bool}:constSV (.bool p)=.b p:=rfl
theorem ev_const {x:Operand} {p:Bool} {s:SV} (hx:x=.const (.bool p)) (h:σ.ev E π x=some s):s=.b p:=by
 subst hx;simp only [St.ev,constSV_bool,Option.some.injEq]at h;exact h.symm
theorem pickE_ok (hS:Sat C σ m ids a) (hG:Glob E.G m) (hh:Holds a π) {c x y:Operand}:PRok (pickE E σ π c x y) (PureV E m ids a ⟨d,.pick c x y,ty,pos,af,g⟩):=by
 have run:∀ (q:Bool) (s:SV),a.eval c=.bool q→Den m ids s (bif q then a.eval x else a.eval y)→PureV E m ids a ⟨d,.pick c x y,ty,pos,af,g⟩ s:=fun q s hc hd=>.of hd fun w=>by
   simp only [execOp,hc,asBool,Sem.run_bind,Sem.run_pure,Result.andThen_ok];cases q<;>exact⟨rfl,rfl⟩
 unfold pickE;split
 ·rename_i t;split
  ·rename_i hk;have ht:a.eval (.tmp t)=.bool true:=hS.kn t true hk;split
   ·rename_i s hs;obtain⟨v,_,e,h⟩:=hS.toSatF.ev hG hh hs;subst e;exact run true s ht h
   ·exact True.intro
  ·rename_i hk;have ht:a.eval (.tmp t)=.bool false:=hS.kn t false hk;split
   ·rename_i s hs;obtain⟨v,_,e,h⟩:=hS.toSatF.ev hG hh hs;subst e;exact run false s ht h
   ·exact True.intro
  ·split
   ·rename_i q sx sy hq hx hy;obtain⟨_,hden⟩:=hS.toSatF.slot hh hq;rw [Den]at hden;have ht:a.eval (.tmp t)=.bool q:=hden;refine(mergeB_ok (q:=q) (u:=a.eval x) (v:=a.eval y) (fun e=>?_) (fun e=>?_) (fun p hp=>ev_const hp hx) (fun p hp=>ev_const hp hy)).mono fun s h=>run q s ht h
    ·subst e;obtain⟨v,_,e,h⟩:=hS.toSatF.ev hG (holds_snoc hh hden) hx;subst e;exact h
    ·subst e;obtain⟨v,_,e,h⟩:=hS.toSatF.ev hG (holds_snoc hh hden) hy;subst e;exact h
   ·exact True.intro
 ·exact True.intro
theorem load_pure {T:TypeId} {x:Operand} {r:PR} (h:PRok r (fun s=>∃ v,Den m ids s v∧∀ w,Ext m.w w→exUpon E.P v w ((execOp a.eval ⟨d,.load T x,ty,pos,af,g⟩).run E.P w))):PRok r (PureV E m ids a ⟨d,.load T x,ty,pos,af,g⟩) :=
 h.mono fun _ ⟨v,h1,h2⟩=>⟨v,h1,fun h=>by simp [looks]at h,h2⟩
theorem len_pure {x:Operand} {ts:Array TypeId} {r:PR} (h:PRok r (fun s=>∃ v,Den m ids s v∧∀ w,Ext m.w w→exUpon E.P v w ((execOp a.eval ⟨d,.call ⟨.builtin .len,#[x],ts⟩,ty,pos,af,g⟩).run E.P w))):PRok r (PureV E m ids a ⟨d,.call ⟨.builtin .len,#[x],ts⟩,ty,pos,af,g⟩) :=
 h.mono fun _ ⟨v,h1,h2⟩=>⟨v,h1,fun h=>by simp [looks]at h,h2⟩
theorem subV_eq (K lo hi:Nat) (a:Option Addr) (n c:Nat):subV K lo hi (.slice a n c)=XK.dropV K (XK.takeV (.slice a n c) hi) lo:=rfl
theorem Elts.take {α:Type} {K:Nat} {D:α→List CP} {l:List α} {uss:List (List Value)} (h:Elts K D m l uss) (n:Nat):Elts K D m (l.take n) (uss.take n) :=
 ⟨by simp [h.1],fun us hu=>h.2.1 us (List.mem_of_mem_take hu),fun i x hx=>by
   rw [List.getElem?_take]at hx ⊢;split at hx
   ·rename_i hi;rw [if_pos hi];exact h.2.2 i x hx
   ·cases hx⟩
theorem Elts.drop {α:Type} {K:Nat} {D:α→List CP} {l:List α} {uss:List (List Value)} (h:Elts K D m l uss) (n:Nat):Elts K D m (l.drop n) (uss.drop n) :=
 ⟨by simp [h.1],fun us hu=>h.2.1 us (List.mem_of_mem_drop hu),fun i x hx=>by
   rw [List.getElem?_drop]at hx ⊢
   exact h.2.2 _ x hx⟩
theorem flat_take {K:Nat}:∀ {uss:List (List Value)} (n:Nat),(∀ us∈uss,us.length=K)→(uss.take n).flatten=uss.flatten.take (n*K)
 |_,0,_=>by simp
 |[],n+1,_=>by simp
 |c::r,n+1,h=>by
   have hc:=h c (List.mem_cons_self ..);have e1:c.take ((n+1)*K)=c:=List.take_of_length_le (by rw [hc,Nat.add_mul];omega)
   rw [List.take_succ_cons,List.flatten_cons,List.flatten_cons,flat_take n fun us hu=>h us (List.mem_cons_of_mem _ hu),List.take_append,e1,hc,show(n+1)*K-K=n*K by rw [Nat.add_mul];omega]
theorem flat_drop {K:Nat}:∀ {uss:List (List Value)} (n:Nat),(∀ us∈uss,us.length=K)→(uss.drop n).flatten=uss.flatten.drop (n*K)
 |_,0,_=>by simp
 |[],n+1,_=>by simp
 |c::r,n+1,h=>by
   have hc:=h c (List.mem_cons_self ..);have e1:c.drop ((n+1)*K)=[]:=List.drop_eq_nil_of_le (by rw [hc,Nat.add_mul];omega)
   rw [List.drop_succ_cons,List.flatten_cons,flat_drop n fun us hu=>h us (List.mem_cons_of_mem _ hu),List.drop_append,e1,hc,List.nil_append,show(n+1)*K-K=n*K by rw [Nat.add_mul];omega]
theorem blk_sub {K lo hi b:Nat} {ad:Option Addr} {n cp:Nat} (h:blkOf (subV K lo hi (.slice ad n cp))=some b):blkOf (.slice ad n cp)=some b:=by
 unfold subV at h
 cases ad with
 |none =>
   simp only [Option.map_none,ite_self]at h;cases h
 |some ad =>
   by_cases hc:cp=lo
   ·simp only [hc,if_true]at h;exact h
   ·simp only [hc,if_false,Option.map_some,blkOf,Addr.add]at h ⊢;split at h<;>exact h
theorem reads_part {c:Nat} {l:List (TabT c)} {uss:List (List Value)} {lo hi:Nat} {ad:Option Addr} {n cp:Nat} {w:World} (h1:Reads w (KT c) (.slice ad n cp) l.length uss.flatten) (h2:Elts (KT c) (TabD c) m l uss) (h3:lo≤hi) (h4:hi≤l.length) :
   Reads w (KT c) (subV (KT c) lo hi (.slice ad n cp)) ((l.drop lo).take (hi-lo)).length ((uss.drop lo).take (hi-lo)).flatten∧Elts (KT c) (TabD c) m ((l.drop lo).take (hi-lo)) ((uss.drop lo).take (hi-lo)):=by
 refine⟨?_,(h2.drop lo).take _⟩;have r:=(h1.takeV h4).dropV h3;rw [subV_eq];have e1:((l.drop lo).take (hi-lo)).length=hi-lo:=by simp;omega
 have hk:=h2.2.1;rw [e1]
 have e2:((uss.drop lo).take (hi-lo)).flatten=(uss.flatten.take (hi*KT c)).drop (lo*KT c):=by
   rw [flat_take _ fun us hu=>hk us (List.mem_of_mem_drop hu),flat_drop _ hk,List.take_drop,← Nat.add_mul,show lo+(hi-lo)=hi by omega]
 rw [e2];exact r
theorem view_ok (hS:Sat C σ m ids a) {c:Nat} {s:SV} {l:List (TabT c)} {y:Value} (h:viewL σ c s=some l) (hd:Den m ids s y) :
   ∃ uss,Reads m.w (KT c) y l.length uss.flatten∧Elts (KT c) (TabD c) m l uss:=by
 unfold viewL at h;split at h
 ·rename_i z c' l';obtain⟨e,h⟩:=castL_some h;subst e;cases h;rw [Den]at hd;obtain⟨uss,h1,h2,_⟩:=hd;exact⟨uss,h1,h2⟩
 ·cases h;cases den_v hd;exact⟨[],⟨by simp,.inl ⟨⟨_,rfl⟩,rfl⟩⟩,Elts.nil⟩
 ·rename_i i;rw [Den]at hd;split at h
  ·rename_i _ _ c' l' hi;obtain⟨e,h⟩:=castL_some h;subst e;cases h;obtain⟨v,uss,h1,h2,h3,_⟩:=hS.heap.sat i _ hi;rw [hd.1]at h1;cases h1;exact⟨uss,h2.reads,h3⟩
  ·rename_i _ c' l' hi;obtain⟨e,h⟩:=castL_some h;subst e;cases h;obtain⟨v,h1,uss,h2,h3,_⟩:=hS.heap.sat i _ hi;rw [hd.1]at h1;cases h1;exact⟨uss,h2,h3⟩
  ·cases h
 ·rename_i i c0 lo hi;split at h
  ·rename_i hc0;have hc0:=Nat.eq_of_beq_eq_true hc0;subst hc0;rw [Den]at hd;obtain⟨ad,n,cp,hid,h0,h1,h2,_,_,_,rfl⟩:=hd;split at h
   ·rename_i _ _ c' l' hl;split at h
    ·rename_i l2 hcast;obtain⟨e,hcast⟩:=castL_some hcast;subst e;cases hcast;cases h;obtain⟨v,uss,h3,h4,h5,_⟩:=hS.heap.sat i _ hl;rw [hid]at h3;cases h3;have hr:=h4.reads;obtain⟨_,_,e,_⟩:=hr.len;injection e with _ e2 _
     have:=reads_part (lo:=lo.toNat) (hi:=hi.toNat) hr h5 (by omega) (by omega)
     rw [show(hi-lo).toNat=hi.toNat-lo.toNat by omega]
     exact⟨_,this⟩
    ·cases h
   ·rename_i _ c' l' hl;split at h
    ·rename_i l2 hcast;obtain⟨e,hcast⟩:=castL_some hcast;subst e;cases hcast;cases h;obtain⟨v,h3,uss,h4,h5,_⟩:=hS.heap.sat i _ hl;rw [hid]at h3;cases h3;obtain⟨_,_,e,_⟩:=h4.len;injection e with _ e2 _
     have:=reads_part (lo:=lo.toNat) (hi:=hi.toNat) h4 h5 (by omega) (by omega)
     rw [show(hi-lo).toNat=hi.toNat-lo.toNat by omega]
     exact⟨_,this⟩
    ·cases h
   ·cases h
  ·cases h
 ·rename_i i c0 N lo hi;split at h
  ·rename_i hc0;have hc0:=Nat.eq_of_beq_eq_true hc0;subst hc0;rw [Den]at hd;obtain⟨b,hid,h0,h1,h2,h6,rfl⟩:=hd;split at h
   ·rename_i _ N' c' l' hl;split at h
    ·rename_i l2 hcast hN;have hN:=Nat.eq_of_beq_eq_true hN;obtain⟨e,hcast⟩:=castL_some hcast;subst e;cases hcast;cases h;obtain⟨b',uss,h3,h4,h5,h7⟩:=hS.heap.sat i _ hl;rw [hid]at h3;cases h3
     have hr:Reads m.w (KT c') (.slice (some ⟨b,0,none⟩) N N) l'.length uss.flatten:=by
       have:=Reads.of_row (size:=KT c') (n:=l'.length) h4 h5.flat (by unfold maxLen;omega)
       rw [h7,← hN]at this ⊢;exact this
     have:=reads_part (lo:=lo.toNat) (hi:=hi.toNat) hr h5 (by omega) (by omega)
     rw [show(hi-lo).toNat=hi.toNat-lo.toNat by omega]
     exact⟨_,this⟩
    ·cases h
   ·cases h
  ·cases h
 ·cases h
theorem bytes_of:∀ {l:List UInt8} {uss:List (List Value)},Elts (KT 3) (TabD 3) m l uss→uss.flatten=l.map fun b=>Value.int .u8 b.toNat
 |[],uss,h=>by
   have:uss=[]:=List.eq_nil_of_length_eq_zero h.1;subst this;rfl
 |x::l,uss,h=>by
   cases uss with
   |nil=>exact absurd h.1 (by simp)
   |cons c r =>
     obtain⟨us,h1,h2⟩:=h.2.2 0 x rfl;simp only [List.getElem?_cons_zero,Option.some.injEq]at h1;subst h1;obtain⟨u,us',rfl,h3,h4⟩:=h2;have h3:u=.int .u8 x.toNat:=h3;have h4:us'=[]:=h4;subst h3 h4;have ih:=bytes_of (l:=l) (uss:=r) ⟨Nat.succ.inj h.1,fun us hu=>h.2.1 us (List.mem_cons_of_mem _ hu),fun i y hy=>h.2.2 (i+1) y hy⟩
     simp [ih]
theorem foldl_push:∀ (l:List UInt8) (s:ByteArray),((l.map fun b=>(b.toNat:Int)).foldl (fun r n=>r.push (UInt8.ofNat n.toNat)) s)=⟨s.data++l.toArray⟩
 |[],s=>by simp
 |x::l,s=>by
   rw [List.map_cons,List.foldl_cons,foldl_push l];simp [ByteArray.push]
theorem isBytes_spec {T:TypeId} (h:isBytes E T=true):∃ e,E.P.underlying T=some (.slice e)∧E.P.underlying e=some (.int .u8):=by
 unfold isBytes at h;split at h
 ·rename_i e _ _ _ _ _ hT;split at h
  ·rename_i hE;exact⟨e,kn_of hT,kn_of hE⟩
  ·cases h
 ·cases h
theorem isStr_spec {T:TypeId} (h:isStr E T=true):E.P.underlying T=some .string:=by
 unfold isStr at h;split at h
 ·rename_i hT;exact kn_of hT
 ·cases h
theorem run_bytes {P:Program} {w:World} {y:Value} {l:List UInt8} (h6:Reads w (KT 3) y l.length (l.map fun b=>Value.int .u8 b.toNat)):(Conv.bytesToString y).run P w=.ok (.string (ofBytes l)) w:=by
 obtain⟨b,c,rfl,_⟩:=h6.len
 cases b with
 |none =>
   rcases h6.2 with ⟨_,h7⟩|⟨_,_,_,h7,_⟩
   ·have:l=[]:=List.eq_nil_of_length_eq_zero h7;subst this;simp [Conv.bytesToString,ofBytes];rfl
   ·cases h7
 |some ad =>
   have hl2:(loadCells ad l.length).run P w=.ok ((l.map fun b=>(b.toNat:Int)).map (Value.int .u8)).toArray w:=by
     rcases h6.2 with ⟨_,h7⟩|⟨b',o,c',h7,_,_,h8⟩
     ·rw [h7];have:l=[]:=List.eq_nil_of_length_eq_zero h7;subst this;simp [loadCells,loadCellsFrom]
     ·cases h7;have h9:=run_loadCells_at (P:=P) w b' o _ h8;rw [List.map_map];rw [List.length_map]at h9;exact h9
   rw [run_bytesToString w ad l.length c _ hl2,foldl_push];simp [ofBytes]
theorem bstrE_ok (hS:Sat C σ m ids a) {S T:TypeId} {x:Operand} {s:SV} {u:Value} (h1:isBytes E S=true) (h2:isStr E T=true) (hx:XK.ev (envA a) x=some u) (hs:Den m ids s u) :
   PRok (bstrE σ s) (PureV E m ids a ⟨d,.convert S T x,ty,pos,af,g⟩):=by
 have e1:=(okx_envA a).ev hx;obtain⟨e,hu,he⟩:=isBytes_spec h1;have hd:=isStr_spec h2;unfold bstrE;split
 ·rename_i l hl;intro hle;obtain⟨uss,h3,h4⟩:=view_ok hS hl hs;have h5:=bytes_of h4;refine⟨.string (ofBytes l),by rw [Den];exact⟨rfl,by unfold STRMAX;have:(ofBytes l).size=l.length:=rfl;omega⟩,fun h=>by simp [looks,h1]at h,fun w hw=>?_⟩
  have h6:=h3.ext hw;rw [h5]at h6;have hr:=run_bytes (P:=E.P) (l:=l) h6;obtain⟨b,c,rfl,_⟩:=h6.len;simp only [execOp,e1,Sem.run_bind,run_convert_bytes_string w S T e b l.length c hu he hd,hr,Result.andThen_ok,Sem.run_pure];exact⟨rfl,Ext.refl _⟩
 ·exact True.intro
theorem bndE_spec (hS:Sat C σ m ids a) (hG:Glob E.G m) {x:Option Operand} {n i:Int} (h:bndE E σ x n=some i):(x=none∧i=n)∨∃ k,x.map a.eval=some (.int k i):=by
 unfold bndE at h;split at h
 ·cases h;exact .inl ⟨rfl,rfl⟩
 ·rename_i x;split at h
  ·rename_i s hs;obtain⟨v,_,e,h2⟩:=hS.toSatF.ev hG (fun g hg=>by cases hg) hs
   obtain⟨k,rfl⟩:=asIx_spec h h2;exact .inr ⟨k,by simp [e]⟩
  ·cases h
theorem run_bounds {P:Program} {w:World} {isS:Bool} {len cap:Nat} {low high:Option Value} {i j:Int} (hl:(low=none∧i=0)∨∃ k,low=some (.int k i)) (hh:(high=none∧j=len)∨∃ k,high=some (.int k j)) (h0:0≤i) (h1:i≤j) (h2:j≤len) (h3:len≤cap) :
   (Instr.sliceBounds isS len cap low high none).run P w=.ok (i.toNat,j.toNat,cap) w:=by
 have sb:∀ (k:IntKind) (n:Int) (y:Nat) (c:BoundsCode),0≤n→n≤y→(Instr.sliceBound (.int k n) y c).run P w=.ok n.toNat w:=fun k n y c q0 q1=>by
   simp only [Instr.sliceBound,asIntOf,Sem.run_bind,Sem.run_pure,Result.andThen_ok];rw [if_pos ⟨q0,q1⟩];rfl
 unfold Instr.sliceBounds;rcases hl with ⟨rfl,rfl⟩|⟨k,rfl⟩<;>rcases hh with ⟨rfl,rfl⟩|⟨k',rfl⟩
 ·simp
 ·simp only [Sem.run_bind,Sem.run_pure,Result.andThen_ok];rw [sb k' j cap _ (by omega) (by omega)]
  simp
 ·simp only [Sem.run_bind,Sem.run_pure,Result.andThen_ok];rw [sb k i len _ h0 (by omega)]
  simp
 ·simp only [Sem.run_bind,Sem.run_pure,Result.andThen_ok];rw [sb k' j cap _ (by omega) (by omega)]
  simp only [Result.andThen_ok];rw [sb k i j.toNat _ h0 (by omega)]
  simp
theorem elemC_spec {T e:TypeId} {i:TyI} (h:elemC E T=some (e,i)):E.P.underlying T=some (.slice e)∧E.TI e=some i∧KT i.code=i.size∧BT i.code=i.bytes:=by
 unfold elemC at h;split at h
 ·rename_i e' _ _ _ _ _ hT;split at h
  ·rename_i i' hi;split at h
   ·rename_i q1 q2;cases h;exact⟨kn_of hT,hi,Nat.eq_of_beq_eq_true q1,Nat.eq_of_beq_eq_true q2⟩
   ·cases h
  ·cases h
 ·cases h
theorem sliceE_ok (hS:Sat C σ m ids a) (hG:Glob E.G m) {T:TypeId} {x:Operand} {lo hi:Option Operand} {s:SV} {u:Value} (hx:XK.ev (envA a) x=some u) (hs:Den m ids s u) :
   PRok (sliceE E σ T s lo hi) (PureV E m ids a ⟨d,.slice T x lo hi none,ty,pos,af,g⟩):=by
 have e1:=(okx_envA a).ev hx
 have run:∀ (v:Value),(∀ w,(Instr.sliceAt T u (lo.map a.eval) (hi.map a.eval) none).run E.P w=.ok v w)→Sl E.P a ⟨d,.slice T x lo hi none,ty,pos,af,g⟩ v:=fun v h w=>by
   simp only [execOp,e1,Sem.run_bind,Option.map_none,h w,Result.andThen_ok,Sem.run_pure];exact⟨rfl,rfl⟩
 unfold sliceE;split
 ·rename_i b hT;have hu:E.P.underlying T=some .string:=kn_of hT;split
  ·rename_i i j hi' hj';rw [Den]at hs;obtain⟨rfl,hsz⟩:=hs;refine⟨hsz,fun⟨h0,h1,h2⟩=>?_⟩
   have bl:=bndE_spec hS hG hi';have bh:=bndE_spec hS hG hj';refine .of (v:=.string (b.extract i.toNat j.toNat)) (by rw [Den];exact⟨rfl,by rw [ByteArray.size_extract];omega⟩) (run _ fun w=>?_)
   have hb:=run_bounds (P:=E.P) (w:=w) (isS:=false) (len:=b.size) (cap:=b.size) (low:=lo.map a.eval) (high:=hi.map a.eval) (i:=i) (j:=j) (bl.imp (fun h=>⟨by rw [h.1];rfl,h.2⟩) id) (bh.imp (fun h=>⟨by rw [h.1];rfl,h.2⟩) id) h0 h1 h2 (Nat.le_refl _)
   simp [Instr.sliceAt,Instr.slice,run_underlying hu,hb]
  ·exact True.intro
 ·rename_i e0 _ _ _ _ _ z c l hT;split
  ·rename_i e i' he;obtain⟨hu,hE,hK,hB⟩:=elemC_spec he;split
   ·rename_i i j hc hi' hj';have hc:=Nat.eq_of_beq_eq_true hc;rw [Den]at hs;obtain⟨uss,h1,h2,h3,h4,h5⟩:=hs;refine⟨⟨h5,len_le h5⟩,fun⟨q0,q1,q2⟩=>?_⟩
    have bl:=bndE_spec hS hG hi';have bh:=bndE_spec hS hG hj';obtain⟨ad,cp,rfl,hcp,_⟩:=h1.len;have hp:=reads_part (lo:=i.toNat) (hi:=j.toNat) h1 h2 (by omega) (by omega)
    rw [show j.toNat-i.toNat=(j-i).toNat by omega]at hp
    refine .of (v:=subV (KT c) i.toNat j.toNat (.slice ad l.length cp)) ?_ (run _ fun w=>?_)
    ·rw [Den];refine⟨_,hp.1,hp.2,fun hne b hb=>?_,trivial,?_⟩
     ·exact h3 (fun e=>hne (by rw [e];simp)) b (blk_sub hb)
     ·rw [List.length_take,List.length_drop];exact Nat.le_trans (Nat.mul_le_mul_right _ (by omega)) h5
    ·have hb:=run_bounds (P:=E.P) (w:=w) (isS:=true) (len:=l.length) (cap:=cp) (low:=lo.map a.eval) (high:=hi.map a.eval) (i:=i) (j:=j) (bl.imp (fun h=>⟨by rw [h.1];rfl,h.2⟩) id) (bh.imp (fun h=>⟨by rw [h.1];rfl,h.2⟩) id) q0 q1 q2 hcp
     have hin:=inf_of' hE;obtain⟨inf,h6,_,h7,_⟩:=hin.ex;simp [Instr.sliceAt,Instr.slice,run_underlying hu,hb,sizeOf,typeInfo,h6,h7,subV,← hK,hc]
   ·exact True.intro
  ·exact True.intro
 ·rename_i e0 _ _ _ _ _ jn hT;split
  ·rename_i e i' _ _ c l he hl;obtain⟨hu,hE,hK,hB⟩:=elemC_spec he;split
   ·rename_i i j hc hi' hj';have hc:=Nat.eq_of_beq_eq_true hc;rw [Den]at hs;obtain⟨v,uss,h1,h2,h3,h4,h5⟩:=hS.heap.sat jn _ hl;rw [hs.1]at h1;cases h1;refine⟨⟨h5,len_le h5⟩,fun⟨q0,q1,q2⟩=>?_⟩
    have bl:=bndE_spec hS hG hi';have bh:=bndE_spec hS hG hj';have hr:=h2.reads;obtain⟨ad,cp,rfl,hcp,_⟩:=hr.len;refine .of (v:=subV (KT c) i.toNat j.toNat (.slice ad l.length cp)) ?_ (run _ fun w=>?_)
    ·rw [Den];refine⟨ad,l.length,cp,hs.1,q0,q1,q2,fun hn=>?_,hcp,len_le h5,rfl⟩
     obtain⟨b,o,c',e',_⟩:=hr.has hn;injection e' with e' _ _
     exact⟨b,o,e'⟩
    ·have hb:=run_bounds (P:=E.P) (w:=w) (isS:=true) (len:=l.length) (cap:=cp) (low:=lo.map a.eval) (high:=hi.map a.eval) (i:=i) (j:=j) (bl.imp (fun h=>⟨by rw [h.1];rfl,h.2⟩) id) (bh.imp (fun h=>⟨by rw [h.1];rfl,h.2⟩) id) q0 q1 q2 hcp
     have hin:=inf_of' hE;obtain⟨inf,h6,_,h7,_⟩:=hin.ex;simp [Instr.sliceAt,Instr.slice,run_underlying hu,hb,sizeOf,typeInfo,h6,h7,subV,← hK,hc]
   ·exact True.intro
  ·exact True.intro
 ·rename_i n e _ _ _ _ _ jn hT;have hu:E.P.underlying T=some (.array n e):=kn_of hT;split
  ·rename_i _ N c l hl;split
   ·rename_i k hk;split
    ·rename_i i j hkc hN hi' hj';have hkc:=Nat.eq_of_beq_eq_true hkc;have hN:=Nat.eq_of_beq_eq_true hN;subst hN;rw [Den]at hs;obtain⟨b,hid,rfl⟩:=hs;intro ⟨⟨q0,q1,q2⟩,q3⟩;have bl:=bndE_spec hS hG hi';have bh:=bndE_spec hS hG hj';refine .of (v:=subV (KT c) i.toNat j.toNat (.slice (some ⟨b,0,none⟩) n n)) (by rw [Den];exact⟨b,hid,q0,q1,q2,q3,rfl⟩) (run _ fun w=>?_)
     have hb:=run_bounds (P:=E.P) (w:=w) (isS:=false) (len:=n) (cap:=n) (low:=lo.map a.eval) (high:=hi.map a.eval) (i:=i) (j:=j) (bl.imp (fun h=>⟨by rw [h.1];rfl,h.2⟩) id) (bh.imp (fun h=>⟨by rw [h.1];rfl,h.2⟩) id) q0 q1 q2 (Nat.le_refl _)
     obtain⟨zv,bb,hin⟩:=sizeE_spec hk;obtain⟨inf,h6,_,h7,_⟩:=hin.ex;simp only [Instr.sliceAt,Instr.sureAddr,Sem.run_bind,run_underlying hu,Result.andThen_ok,Sem.run_pure,hb,sizeOf,typeInfo];simp [h6,h7,hkc,subV];split<;>rfl
    ·exact True.intro
   ·exact True.intro
  ·exact True.intro
 ·exact True.intro
theorem mget_map {kc vc:Nat} (x:TabT kc):∀ (l:List (TabT kc×TabT vc)),mget (l.map fun p=>(p.1,TV vc p.2)) x=(mgetT l x).map (TV vc)
 |[]=>rfl
 |(k,u)::r=>by
   rw [List.map_cons,mget_cons,mgetT,mget_map x r];split<;>rfl
theorem mgetT_mem {kc vc:Nat} {x:TabT kc}:∀ {l:List (TabT kc×TabT vc)} {y:TabT vc},mgetT l x=some y→∃ p∈l,p.2=y
 |[],_,h=>by cases h
 |(k,u)::r,y,h=>by
   rw [mgetT]at h;split at h
   ·cases h;exact⟨_,List.mem_cons_self ..,rfl⟩
   ·obtain⟨p,h1,h2⟩:=mgetT_mem h;exact⟨p,List.mem_cons_of_mem _ h1,h2⟩
theorem zSV_den (v:Value):Den m ids (zSV v) v:=by
 unfold zSV;split
 ·rw [Den];exact⟨_,rfl,svs_den _⟩
 ·exact constSV_den _
theorem esL_den {c:Nat}:∀ {l:List (TabT c)} {uss:List (List Value)} {cs:List SV},esL c l=some cs→Elts (KT c) (TabD c) m l uss→DenL m ids cs uss.flatten
 |[],uss,cs,h,he=>by
   simp only [esL,Option.some.injEq]at h;subst h;have:uss=[]:=List.eq_nil_of_length_eq_zero he.1;subst this;rw [DenL];rfl
 |x::r,uss,cs,h,he=>by
   simp only [esL]at h;split at h
   ·rename_i a b h1 h2;cases h
    cases uss with
    |nil=>have:=he.1;simp at this
    |cons us ur =>
      rw [List.flatten_cons];refine DenL.append ?_ (esL_den h2 ⟨by have:=he.1;simpa using this,fun q hq=>he.2.1 q (List.mem_cons_of_mem _ hq),fun i y hy=>?_⟩)
      ·obtain⟨us',h3,h4⟩:=he.2.2 0 x rfl;cases h3;exact(ES_iff c x h1).1 h4
      ·exact he.2.2 (i+1) y hy
   ·cases h
theorem unav_den {s:SV} {y:Value} (h:Den m ids s y):Den m ids (unav s) y:=by
 unfold unav;split
 ·rename_i c N l;split
  ·rename_i cs hcs;rw [Den]at h;obtain⟨uss,rfl,h1,_⟩:=h;rw [Den];exact⟨uss.flatten,rfl,esL_den hcs h1⟩
  ·exact h
 ·exact h
theorem lookE_ok (hS:Sat C σ m ids a) {T:TypeId} {x y:Operand} {ok:Bool} {s t:SV} {u v:Value} (hx:XK.ev (envA a) x=some u) (hy:XK.ev (envA a) y=some v) (hs:Den m ids s u) (ht:Den m ids t v) :
   PRok (lookE E σ T s t ok) (PureV E m ids a ⟨d,.lookup T x y ok,ty,pos,af,g⟩):=by
 unfold lookE;split
 ·rename_i kt vt _ _ _ _ _ i hT;have hu:E.P.underlying T=some (.map kt vt):=kn_of hT;split
  ·rename_i kc vc l iv hl hV;split
   ·rename_i q z hKO hgk hq hzc hg;have hkey:=E.hK _ _ hKO;rw [Den]at hs;obtain⟨b,h1,h2,h3⟩:=hS.heap.sat i _ hl;rw [hs.1]at h1;cases h1;obtain⟨hv,_⟩:=GV kc hgk hq ht;subst hv;have hin:=inf_of' hV
    have hz2:iv.z=TV vc z∧DL (TabD vc z) m (TV vc z).cells.toList:=by
      unfold zeroV at hzc;rw [hV]at hzc;have q:=GV (ids:=[]) (m:=m) vc hg hzc (zSV_den iv.z);exact⟨q.1,by rw [← q.1];exact q.2⟩
    have hval:∀ r:Value,r=(mget (l.map fun p=>(p.1,TV vc p.2)) q).getD iv.z→Den m ids (VS vc ((mgetT l q).getD z)) r:=by
      intro r hr;subst hr;rw [mget_map]
      cases hm:mgetT l q with
      |none =>
        rw [Option.map_none,Option.getD_none,Option.getD_none,hz2.1];exact VS_ok vc hg hz2.2
      |some w0 =>
        obtain⟨p,h4,h5⟩:=mgetT_mem hm;rw [Option.map_some,Option.getD_some,Option.getD_some,← h5];exact VS_ok vc hg (h3 p h4)
    cases ok with
    |false =>
      refine⟨_,hval _ rfl,fun h=>by simp [looks]at h,fun w hw=>?_⟩
      exact Exa.lookup (wc:=m.w) hu hkey hin hx hy h2 a _ (okx_envA a) w hw
    |true =>
      refine⟨_,by rw [Den];exact⟨[_,_],rfl,by rw [DenL];exact⟨_,_,rfl,hval _ rfl,by rw [DenL];exact⟨_,_,rfl,den_b _,by rw [DenL]⟩⟩⟩,fun h=>by simp [looks]at h,fun w hw=>?_⟩
      have:=Exa.lookupOk (wc:=m.w) (d:=d) (ty:=ty) (pos:=pos) (af:=af) (g:=g) hu hkey hin hx hy h2 a _ (okx_envA a) w hw;rw [mget_map,Option.isSome_map]at this;rw [mget_map];exact this
   ·exact True.intro
  ·exact True.intro
 ·exact True.intro
theorem notIface {E:En} {T:TypeId} {i:TyI} (h0:∀ a b c d e,i=⟨.iface,a,b,c,d,e⟩→False) (hT:E.TI T=some i):∃ D,E.P.underlying T=some D∧∀ ms,D≠.interface ms:=by
 have hk:=kn_of hT;cases hkn:i.kn<;>rw [hkn]at hk<;>simp only [KnOK]at hk
 case bool=>exact⟨_,hk,fun _ h=>by cases h⟩
 case int=>exact⟨_,hk,fun _ h=>by cases h⟩
 case str=>exact⟨_,hk,fun _ h=>by cases h⟩
 case slice=>exact⟨_,hk,fun _ h=>by cases h⟩
 case arr=>exact⟨_,hk,fun _ h=>by cases h⟩
 case strct=>obtain⟨F,h,_⟩:=hk;exact⟨_,h,fun _ h=>by cases h⟩
 case map=>exact⟨_,hk,fun _ h=>by cases h⟩
 case iface=>cases i;cases hkn;exact(h0 _ _ _ _ _ rfl).elim
 case oth =>
   cases hu:E.P.underlying T with
   |none=>rw [hu]at hk;cases hk
   |some D=>rw [hu]at hk;exact⟨D,rfl,fun ms e=>by subst e;cases hk⟩
theorem evP_ok (hS:Sat C σ m ids a) (hG:Glob E.G m) (hh:Holds a π) {op:Op}:PRok (evP E σ π op) (PureV E m ids a ⟨d,op,ty,pos,af,g⟩):=by
 unfold evP;split
 ·rename_i x;split
  ·rename_i s hs;obtain⟨v,h1,_,h2⟩:=hS.toSatF.ev hG hh hs;exact .of h2 (sl_of (Sil.move h1))
  ·exact True.intro
 ·rename_i x;split
  ·rename_i s hs;obtain⟨v,h1,_,h2⟩:=hS.toSatF.ev hG hh hs;exact .of h2 (sl_of (Sil.assign h1))
  ·exact True.intro
 ·rename_i x
  have ptr:∀ (s:SV) (b:Addr),Den m ids s (.pointer (some b))→a.eval x=.pointer (some b)→PureV E m ids a ⟨d,.nilCheck x,ty,pos,af,g⟩ s:=fun s b h e=>.of h fun w=>by
    simp [execOp,e,silUpon]
  split
  ·rename_i i o hs;obtain⟨v,_,e,h2⟩:=hS.toSatF.ev hG hh hs;obtain⟨b,h3,rfl⟩:=(by rw [Den]at h2;exact h2:∃ b,_∧v=.pointer (some ⟨b,o,none⟩))
   exact ptr _ _ h2 e
  ·rename_i cs o hs;obtain⟨v,_,e,h2⟩:=hS.toSatF.ev hG hh hs;have h3:=h2;rw [Den]at h3;obtain⟨b,q,us,rfl,_⟩:=h3;exact ptr _ _ h2 e
  ·rename_i c N l hs;obtain⟨v,_,e,h2⟩:=hS.toSatF.ev hG hh hs;have h3:=h2;rw [Den]at h3;obtain⟨b,q,us,rfl,_⟩:=h3;exact ptr _ _ h2 e
  ·rename_i i c k o hs;obtain⟨v,_,e,h2⟩:=hS.toSatF.ev hG hh hs;have h3:=h2;rw [Den]at h3;obtain⟨_,_,_,_,_,_,_,rfl⟩:=h3;exact ptr _ _ h2 e
  ·rename_i i c N k o hs;obtain⟨v,_,e,h2⟩:=hS.toSatF.ev hG hh hs;have h3:=h2;rw [Den]at h3;obtain⟨_,_,_,_,rfl⟩:=h3;exact ptr _ _ h2 e
  ·rename_i f fa fb hs;obtain⟨v,_,e,h2⟩:=hS.toSatF.ev hG hh hs;have h3:=h2;rw [Den]at h3;obtain⟨us,vs,rfl,_⟩:=h3;exact .of h2 fun w=>by simp [execOp,e,silUpon]
  ·rename_i t x hs;obtain⟨v,_,e,h2⟩:=hS.toSatF.ev hG hh hs;have h3:=h2;rw [Den]at h3;obtain⟨u,rfl,_⟩:=h3;exact .of h2 fun w=>by simp [execOp,e,silUpon]
  ·exact True.intro
 ·exact pickE_ok hS hG hh
 ·split
  ·rename_i s t hs ht;obtain⟨u,h1,_,h2⟩:=hS.toSatF.ev hG hh hs;obtain⟨v,h3,_,h4⟩:=hS.toSatF.ev hG hh ht;exact binE_ok hS h1 h3 h2 h4
  ·exact True.intro
 ·split
  ·rename_i s hs;obtain⟨u,h1,_,h2⟩:=hS.toSatF.ev hG hh hs;exact unE_ok h1 h2
  ·exact True.intro
 ·split
  ·rename_i s hs;obtain⟨u,h1,_,h2⟩:=hS.toSatF.ev hG hh hs;split
   ·rename_i hb1 hb2;exact bstrE_ok hS hb1 hb2 h1 h2
   ·exact convE_ok h1 h2
  ·exact True.intro
 ·split
  ·rename_i s hs;obtain⟨u,h1,_,h2⟩:=hS.toSatF.ev hG hh hs;exact sliceE_ok hS hG h1 h2
  ·exact True.intro
 ·split
  ·rename_i s t hs ht;obtain⟨u,h1,_,h2⟩:=hS.toSatF.ev hG hh hs;obtain⟨v,h3,_,h4⟩:=hS.toSatF.ev hG hh ht;exact lookE_ok hS h1 h3 h2 (unav_den h4)
  ·exact True.intro
 ·split
  ·rename_i s hs;obtain⟨u,h1,_,h2⟩:=hS.toSatF.ev hG hh hs;exact fieldAddrE_ok h1 h2
  ·exact True.intro
 ·split
  ·rename_i s hs;obtain⟨u,h1,_,h2⟩:=hS.toSatF.ev hG hh hs;exact fieldE_ok h1 h2
  ·exact True.intro
 ·split
  ·rename_i s t hs ht;split
   ·rename_i k hk;obtain⟨u,h1,_,h2⟩:=hS.toSatF.ev hG hh hs;obtain⟨v,h3,_,h4⟩:=hS.toSatF.ev hG hh ht;obtain⟨ik,rfl⟩:=asIx_spec hk h4;exact indexE_ok hS h1 h3 h2
   ·exact True.intro
  ·exact True.intro
 ·split
  ·rename_i s t hs ht;split
   ·rename_i k hk;obtain⟨u,h1,_,h2⟩:=hS.toSatF.ev hG hh hs;obtain⟨v,h3,_,h4⟩:=hS.toSatF.ev hG hh ht;obtain⟨ik,rfl⟩:=asIx_spec hk h4;exact idxE_ok h1 h3 h2
   ·exact True.intro
  ·exact True.intro
 ·split
  ·rename_i s hs;obtain⟨u,h1,_,h2⟩:=hS.toSatF.ev hG hh hs;exact load_pure (loadE_ok hS h1 h2)
  ·exact True.intro
 ·split
  ·rename_i l hs;split
   ·rename_i s hn;obtain⟨u,h1,_,h2⟩:=hS.toSatF.ev hG hh hs;rw [Den]at h2;obtain⟨us,rfl,h3⟩:=h2;rw [nth_eq]at hn;obtain⟨v,h4,h5⟩:=h3.get hn;exact .of h5 (sl_of (Sil.extract h1 (by simpa using h4)))
   ·exact True.intro
  ·exact True.intro
 ·split
  ·rename_i l hl;obtain⟨vs,h1,h2⟩:=hS.toSatF.pevs hG hh hl;exact buildE_ok h1 h2
  ·exact True.intro
 ·split
  ·rename_i x y hx hy;obtain⟨us,h1,h2⟩:=hS.toSatF.evs hG hh hx;obtain⟨vs,h3,h4⟩:=hS.toSatF.evs hG hh hy;exact .of (by rw [Den];exact⟨us,vs,rfl,h2,h4⟩) (sl_of (Sil.makeFunc h1 h3))
  ·exact True.intro
 ·rename_i T x;split
  ·exact True.intro
  ·rename_i i s h0 hT hs;obtain⟨u,_,e,h2⟩:=hS.toSatF.ev hG hh hs;refine .of (v:=.iface T u) (by rw [Den];exact⟨u,rfl,h2⟩) fun w=>?_
   have hu:=notIface (fun a b c d f e=>h0 a b c d f (by rw [e])) hT
   obtain⟨D,hu,hD⟩:=hu;simp only [execOp,e,Instr.makeInterface,Sem.run_bind,run_underlying hu,Result.andThen_ok];cases D<;>first|exact absurd rfl (hD _)|(simp [silUpon])
  ·exact True.intro
 ·rename_i x xt t;split
  ·exact True.intro
  ·rename_i i t' s h0 hT hs;split
   ·rename_i ht;have ht:=Nat.eq_of_beq_eq_true ht;subst ht;obtain⟨u,_,e,h2⟩:=hS.toSatF.ev hG hh hs;rw [Den]at h2;obtain⟨u,rfl,h2⟩:=h2;refine .of h2 fun w=>?_
    obtain⟨D,hu,hD⟩:=notIface (fun a b c d f e=>h0 a b c d f (by rw [e])) hT
    simp only [execOp,e,Instr.typeAssert,Sem.run_bind,run_underlying hu,Result.andThen_ok];cases D<;>first|exact absurd rfl (hD _)|(simp [silUpon])
   ·exact True.intro
  ·exact True.intro
 ·rename_i xs ts;split
  ·rename_i x T hx hT;split
   ·rename_i s hs;obtain⟨u,h1,_,h2⟩:=hS.toSatF.ev hG hh hs;have e1:xs = #[x]:=Array.ext' (by simpa using hx)
    have e2:ts = #[T]:=Array.ext' (by simpa using hT)
    subst e1;exact len_pure (lenE_ok hS e2 h1 h2)
   ·exact True.intro
  ·exact True.intro
 ·rename_i xs ts;split
  ·rename_i x y hx;split
   ·rename_i p q hs ht;obtain⟨u,h1,_,h2⟩:=hS.toSatF.ev hG hh hs;obtain⟨v,h3,_,h4⟩:=hS.toSatF.ev hG hh ht;have e1:xs = #[x,y]:=Array.ext' (by simpa using hx)
    subst e1;rw [Den]at h2 h4;obtain⟨rfl,h5⟩:=h2;obtain⟨rfl,h6⟩:=h4;exact .of (den_i (by unfold InR at h5 h6 ⊢;omega)) (sl_of (Sil.min h1 h3))
   ·exact True.intro
  ·exact True.intro
 ·rename_i xs ts;split
  ·rename_i x y hx;split
   ·rename_i p q hs ht;obtain⟨u,h1,_,h2⟩:=hS.toSatF.ev hG hh hs;obtain⟨v,h3,_,h4⟩:=hS.toSatF.ev hG hh ht;have e1:xs = #[x,y]:=Array.ext' (by simpa using hx)
    subst e1;rw [Den]at h2 h4;obtain⟨rfl,h5⟩:=h2;obtain⟨rfl,h6⟩:=h4;exact .of (den_i (by unfold InR at h5 h6 ⊢;omega)) (sl_of (Sil.max h1 h3))
   ·exact True.intro
  ·exact True.intro
 ·exact True.intro
end
end Go.SX
