/- A part of the proof (texts SF, SG). -/
import Derived.Test.YtobpljbkdffkbaaGreatP05
set_option linter.all false
set_option maxRecDepth 100000
namespace Go.SX
open Go.XK Go.RowKit
section
universe u
variable {α:Type u}
theorem tk_eq:∀ (l:List α) (n:Nat),tk l n=l.take n
 |_,0=>by simp [tk]
 |[],_+1=>by simp [tk]
 |x::r,n+1=>by simp [tk,tk_eq r n]
theorem dp_eq:∀ (l:List α) (n:Nat),dp l n=l.drop n
 |_,0=>by simp [dp]
 |[],_+1=>by simp [dp]
 |x::r,n+1=>by simp [dp,dp_eq r n]
end
theorem len_eq {α:Type}:∀ (l:List α),len l=l.length
 |[]=>rfl
 |_::r=>by simp [len,len_eq r]
theorem wrap_i64 (n:Int):IntKind.i64.wrap n=(n+9223372036854775808) % 18446744073709551616-9223372036854775808:=by
 simp only [IntKind.wrap,IntKind.bits,IntKind.signed,Bool.true_and];split
 ·rename_i h;simp at h;omega
 ·rename_i h;simp at h;omega
theorem wrap_inR (n:Int):InR (IntKind.i64.wrap n):=by rw [wrap_i64];unfold InR;omega
theorem wrap_id {n:Int} (h:InR n):IntKind.i64.wrap n=n:=by rw [wrap_i64];unfold InR at h;omega
theorem wrap_u8 (n:Int):IntKind.u8.wrap n=n % 256:=by simp [IntKind.wrap,IntKind.bits,IntKind.signed]
theorem wrap_u64 (n:Int):IntKind.u64.wrap n=n % 18446744073709551616:=by simp [IntKind.wrap,IntKind.bits,IntKind.signed]
theorem bv8 (x:UInt8):BitVec.ofInt 8 (x.toNat:Int)=x.toBitVec:=by apply BitVec.eq_of_toNat_eq;simp
theorem bv64 (x:UInt64):BitVec.ofInt 64 (x.toNat:Int)=x.toBitVec:=by apply BitVec.eq_of_toNat_eq;simp
theorem lt8 (x:UInt8):x.toNat<256:=x.toNat_lt
theorem lt64 (x:UInt64):x.toNat<18446744073709551616:=x.toNat_lt
section
variable {m:Mm} {ids:List Value}
theorem den_b (p:Bool):Den m ids (.b p) (.bool p):=by rw [Den]
theorem den_i {n:Int} (h:InR n):Den m ids (.i n) (.int .i64 n):=by rw [Den];exact⟨rfl,h⟩
theorem den_w (n:Int):Den m ids (.i (IntKind.i64.wrap n)) (.int .i64 (IntKind.i64.wrap n)):=den_i (wrap_inR n)
theorem den_v {x y:Value} (h:Den m ids (.v x) y):y=x:=by rw [Den]at h;exact h
theorem eqSs_spec:∀ {ks:List Nat} {ss ts:List SV} {us vs:List Value} {r:Bool},eqSs ks ss ts=some r→DenL m ids ss us→DenL m ids ts vs→eqVs ks us vs=some r:=by
 intro ks ss ts
 induction ks,ss,ts using eqSs.induct with
 |case1=>intro us vs r h hs ht;rw [hs.nil,ht.nil];simpa [eqSs,eqVs] using h
 |case2 ks m r n q y hq ih =>
   intro us vs r h hs ht;simp only [eqSs,hq,Option.some.injEq]at h;subst h;rw [DenL]at hs ht;obtain⟨u,us',rfl,h3,h4⟩:=hs;obtain⟨v,vs',rfl,h5,h6⟩:=ht;rw [Den]at h3 h5;rw [h3.1,h5.1,eqVs,ih hq h4 h6];rfl
 |case3 ks m r n q hq ih=>intro us vs r h;simp [eqSs,hq]at h
 |case4 ks m r n q y hq ih =>
   intro us vs r h hs ht;simp only [eqSs,hq,Option.some.injEq]at h;subst h;rw [DenL]at hs ht;obtain⟨u,us',rfl,h3,h4⟩:=hs;obtain⟨v,vs',rfl,h5,h6⟩:=ht;rw [Den]at h3 h5;rw [h3.1,h5.1,eqVs,ih hq h4 h6];rfl
 |case5 ks m r n q hq ih=>intro us vs r h;simp [eqSs,hq]at h
 |case6 ks m r n q y hq ih =>
   intro us vs r h hs ht;simp only [eqSs,hq,Option.some.injEq]at h;subst h;rw [DenL]at hs ht;obtain⟨u,us',rfl,h3,h4⟩:=hs;obtain⟨v,vs',rfl,h5,h6⟩:=ht;rw [Den]at h3 h5;rw [h3,h5,eqVs,ih hq h4 h6];rfl
 |case7 ks m r n q hq ih=>intro us vs r h;simp [eqSs,hq]at h
 |case8=>intro us vs r h;simp_all [eqSs]
end
section
variable {E:En} {C:Cx} {σ:St} {m:Mm} {ids ids':List Value} {a:Act} {π:Path} {d:Option Tmp} {ty:TypeId} {pos:String} {af:Array Edge} {g:Option (Nat×Bool)}
theorem PRok.mono {r:PR} {Q Q':SV→Prop} (h:∀ s,Q s→Q' s) (hr:PRok r Q):PRok r Q':=by
 cases r with
 |ok s=>exact h _ hr
 |ob p s=>exact fun hp=>h _ (hr hp)
 |hy p s=>exact⟨hr.1,h _ hr.2⟩
 |hb p q s=>exact⟨hr.1,fun hp=>h _ (hr.2 hp)⟩
 |ar p x=>exact⟨hr.1,h _ hr.2⟩
 |ap p q x=>exact⟨hr.1,fun hp=>h _ (hr.2 hp)⟩
 |no=>exact True.intro
theorem kn_of {T:TypeId} {i:TyI} (h:E.TI T=some i):KnOK E.P T i.kn:=(E.hT T i h).kn
theorem mkb {o:Oper} (p q:Bool) (e:p=q) (h:Sl E.P a o (.bool q)):PureV E m ids a o (.b p):=.of (by rw [e];exact den_b _) h
section
variable {T T':TypeId} {x y:Operand} {k:IntKind} {i j:Int} {P:Program}
theorem sl_and (hx:XK.ev (envA a) x=some (.int k i)) (hy:XK.ev (envA a) y=some (.int k j)):Sl P a ⟨d,.binOp .and T x y T',ty,pos,af,g⟩ (.int k (k.wrap (BitVec.ofInt k.bits i &&& BitVec.ofInt k.bits j).toNat)):=fun w=>by
 have e1:=(okx_envA a).ev hx;have e2:=(okx_envA a).ev hy;simp [execOp,e1,e2,eqGuard,binOp,Op.intBits,silUpon]
theorem sl_or (hx:XK.ev (envA a) x=some (.int k i)) (hy:XK.ev (envA a) y=some (.int k j)):Sl P a ⟨d,.binOp .or T x y T',ty,pos,af,g⟩ (.int k (k.wrap (BitVec.ofInt k.bits i ||| BitVec.ofInt k.bits j).toNat)):=fun w=>by
 have e1:=(okx_envA a).ev hx;have e2:=(okx_envA a).ev hy;simp [execOp,e1,e2,eqGuard,binOp,Op.intBits,silUpon]
theorem sl_xor (hx:XK.ev (envA a) x=some (.int k i)) (hy:XK.ev (envA a) y=some (.int k j)):Sl P a ⟨d,.binOp .xor T x y T',ty,pos,af,g⟩ (.int k (k.wrap (BitVec.ofInt k.bits i ^^^ BitVec.ofInt k.bits j).toNat)):=fun w=>by
 have e1:=(okx_envA a).ev hx;have e2:=(okx_envA a).ev hy;simp [execOp,e1,e2,eqGuard,binOp,Op.intBits,silUpon]
theorem sl_andn (hx:XK.ev (envA a) x=some (.int k i)) (hy:XK.ev (envA a) y=some (.int k j)):Sl P a ⟨d,.binOp .andNot T x y T',ty,pos,af,g⟩ (.int k (k.wrap (BitVec.ofInt k.bits i &&& ~~~BitVec.ofInt k.bits j).toNat)):=fun w=>by
 have e1:=(okx_envA a).ev hx;have e2:=(okx_envA a).ev hy;simp [execOp,e1,e2,eqGuard,binOp,Op.intBits,silUpon]
end
theorem intB_ok {op:BinOp} {T T':TypeId} {x y:Operand} {i j:Int} (hx:XK.ev (envA a) x=some (.int .i64 i)) (hy:XK.ev (envA a) y=some (.int .i64 j)) (hi:InR i) (hj:InR j) :
   PRok (intB op i j) (PureV E m ids a ⟨d,.binOp op T x y T',ty,pos,af,g⟩):=by
 have e1:=(okx_envA a).ev hx;have e2:=(okx_envA a).ev hy;cases op<;>first|exact True.intro|skip
 case add=>exact⟨⟨hi,hj⟩,.of (den_w _) (sl_of (Sil.add hx hy))⟩
 case sub=>exact⟨⟨hi,hj⟩,.of (den_w _) (sl_of (Sil.sub hx hy))⟩
 case mul=>exact⟨⟨hi,hj⟩,.of (den_w _) (sl_of (Sil.mul hx hy))⟩
 case quo=>exact⟨⟨hi,hj⟩,fun h0=>.of (den_w _) (sl_of (Sil.quo hx hy h0))⟩
 case rem =>
   refine fun h0=>.of (den_i ?_) (sl_of (Sil.rem hx hy h0))
   unfold InR at hi ⊢;have h1:(i.tmod j).natAbs≤i.natAbs:=by rw [Int.natAbs_tmod];exact Nat.mod_le _ _
   have h2:0≤i→0≤i.tmod j:=fun h=>Int.tmod_nonneg j h
   have h3:i≤0→i.tmod j≤0:=fun h=>by
     have:=Int.tmod_nonneg (a:=-i) j (by omega)
     rw [Int.neg_tmod]at this;omega
   by_cases h0:0≤i
   ·have:=h2 h0;omega
   ·have:=h3 (by omega)
    omega
 case eql=>exact mkb _ _ rfl (sl_of (Sil.eql hx hy))
 case neq=>exact mkb _ _ rfl (sl_of (Sil.neq hx hy))
 case lss=>exact .of (den_b _) (sl_of (Sil.lss hx hy))
 case leq=>exact .of (den_b _) (sl_of (Sil.leq hx hy))
 case gtr=>exact .of (den_b _) (sl_of (Sil.gtr hx hy))
 case geq=>exact .of (den_b _) (sl_of (Sil.geq hx hy))
 case and=>exact .of (den_w _) (sl_and hx hy)
 case or=>exact .of (den_w _) (sl_or hx hy)
 case xor=>exact .of (den_w _) (sl_xor hx hy)
 case andNot=>exact .of (den_w _) (sl_andn hx hy)
theorem w8B_ok {op:BinOp} {T T':TypeId} {x y:Operand} {i j:UInt8} (hx:XK.ev (envA a) x=some (.int .u8 i.toNat)) (hy:XK.ev (envA a) y=some (.int .u8 j.toNat)) :
   PRok (w8B op i j) (PureV E m ids a ⟨d,.binOp op T x y T',ty,pos,af,g⟩):=by
 have e1:=(okx_envA a).ev hx;have e2:=(okx_envA a).ev hy;have l1:=lt8 i;have l2:=lt8 j;have mk:∀ (s:UInt8) (n:Int),n=(s.toNat:Int)→Sl E.P a ⟨d,.binOp op T x y T',ty,pos,af,g⟩ (.int .u8 n)→PureV E m ids a ⟨d,.binOp op T x y T',ty,pos,af,g⟩ (.w8 s):=fun s n h k=>.of (by rw [Den,h]) k
 cases op<;>first|exact True.intro|skip
 case add=>exact mk _ _ (by rw [wrap_u8,UInt8.toNat_add];omega) (sl_of (Sil.add hx hy))
 case sub=>exact mk _ _ (by rw [wrap_u8,UInt8.toNat_sub];omega) (sl_of (Sil.sub hx hy))
 case and =>
   refine mk _ _ ?_ (sl_and hx hy);show IntKind.u8.wrap (BitVec.toNat (BitVec.ofInt 8 i.toNat &&& BitVec.ofInt 8 j.toNat))=_;rw [bv8,bv8,wrap_u8,← UInt8.toBitVec_and];have:=lt8 (i &&& j);change ((i &&& j).toNat:Int) % 256=_;omega
 case or =>
   refine mk _ _ ?_ (sl_or hx hy);show IntKind.u8.wrap (BitVec.toNat (BitVec.ofInt 8 i.toNat ||| BitVec.ofInt 8 j.toNat))=_;rw [bv8,bv8,wrap_u8,← UInt8.toBitVec_or];have:=lt8 (i ||| j);change ((i ||| j).toNat:Int) % 256=_;omega
 case xor =>
   refine mk _ _ ?_ (sl_xor hx hy);show IntKind.u8.wrap (BitVec.toNat (BitVec.ofInt 8 i.toNat ^^^ BitVec.ofInt 8 j.toNat))=_;rw [bv8,bv8,wrap_u8,← UInt8.toBitVec_xor];have:=lt8 (i ^^^ j);change ((i ^^^ j).toNat:Int) % 256=_;omega
 case eql =>
   have h:decide (i=j)=((i.toNat:Int)==j.toNat):=by rw [Bool.eq_iff_iff,decide_eq_true_eq,beq_iff_eq,← UInt8.toNat_inj];omega
   exact mkb _ _ h (sl_of (Sil.eql hx hy))
 case neq =>
   have h:(!decide (i=j))=((i.toNat:Int) != j.toNat):=by
     rw [bne,Bool.not_eq_eq_eq_not,Bool.not_not,Bool.eq_iff_iff,decide_eq_true_eq,beq_iff_eq,← UInt8.toNat_inj];omega
   exact mkb _ _ h (sl_of (Sil.neq hx hy))
 case lss =>
   have h:decide (i<j)=decide ((i.toNat:Int)<j.toNat):=by rw [decide_eq_decide,UInt8.lt_iff_toNat_lt];omega
   exact mkb _ _ h (sl_of (Sil.lss hx hy))
 case leq =>
   have h:decide (i≤j)=decide ((i.toNat:Int)≤j.toNat):=by rw [decide_eq_decide,UInt8.le_iff_toNat_le];omega
   exact mkb _ _ h (sl_of (Sil.leq hx hy))
 case gtr =>
   have h:decide (j<i)=decide ((j.toNat:Int)<i.toNat):=by rw [decide_eq_decide,UInt8.lt_iff_toNat_lt];omega
   exact mkb _ _ h (sl_of (Sil.gtr hx hy))
 case geq =>
   have h:decide (j≤i)=decide ((j.toNat:Int)≤i.toNat):=by rw [decide_eq_decide,UInt8.le_iff_toNat_le];omega
   exact mkb _ _ h (sl_of (Sil.geq hx hy))
theorem w64B_ok {op:BinOp} {T T':TypeId} {x y:Operand} {i j:UInt64} (hx:XK.ev (envA a) x=some (.int .u64 i.toNat)) (hy:XK.ev (envA a) y=some (.int .u64 j.toNat)) :
   PRok (w64B op i j) (PureV E m ids a ⟨d,.binOp op T x y T',ty,pos,af,g⟩):=by
 have e1:=(okx_envA a).ev hx;have e2:=(okx_envA a).ev hy;have l1:=lt64 i;have l2:=lt64 j;have mk:∀ (s:UInt64) (n:Int),n=(s.toNat:Int)→Sl E.P a ⟨d,.binOp op T x y T',ty,pos,af,g⟩ (.int .u64 n)→PureV E m ids a ⟨d,.binOp op T x y T',ty,pos,af,g⟩ (.w64 s):=fun s n h k=>.of (by rw [Den,h]) k
 have nz:j≠0→(j.toNat:Int)≠0:=fun h e=>h (by rw [← UInt64.toNat_inj];simpa using e)
 cases op<;>first|exact True.intro|skip
 case add=>exact mk _ _ (by rw [wrap_u64,UInt64.toNat_add];omega) (sl_of (Sil.add hx hy))
 case sub=>exact mk _ _ (by rw [wrap_u64,UInt64.toNat_sub];omega) (sl_of (Sil.sub hx hy))
 case mul=>exact mk _ _ (by rw [wrap_u64,UInt64.toNat_mul,← Int.natCast_mul];omega) (sl_of (Sil.mul hx hy))
 case quo =>
   refine fun h0=>mk _ _ ?_ (sl_of (Sil.quo hx hy (nz h0)))
   have q:((i.toNat:Int).tdiv j.toNat)=((i.toNat / j.toNat:Nat):Int):=(Int.ofNat_tdiv _ _).symm;rw [wrap_u64,UInt64.toNat_div,q];have:=Nat.div_le_self i.toNat j.toNat;generalize i.toNat / j.toNat=z at *;omega
 case rem =>
   refine fun h0=>mk _ _ ?_ (sl_of (Sil.rem hx hy (nz h0)))
   rw [UInt64.toNat_mod,← Int.ofNat_tmod]
 case and =>
   refine mk _ _ ?_ (sl_and hx hy);show IntKind.u64.wrap (BitVec.toNat (BitVec.ofInt 64 i.toNat &&& BitVec.ofInt 64 j.toNat))=_;rw [bv64,bv64,wrap_u64,← UInt64.toBitVec_and];have:=lt64 (i &&& j);change ((i &&& j).toNat:Int) % 18446744073709551616=_;omega
 case or =>
   refine mk _ _ ?_ (sl_or hx hy);show IntKind.u64.wrap (BitVec.toNat (BitVec.ofInt 64 i.toNat ||| BitVec.ofInt 64 j.toNat))=_;rw [bv64,bv64,wrap_u64,← UInt64.toBitVec_or];have:=lt64 (i ||| j);change ((i ||| j).toNat:Int) % 18446744073709551616=_;omega
 case xor =>
   refine mk _ _ ?_ (sl_xor hx hy);show IntKind.u64.wrap (BitVec.toNat (BitVec.ofInt 64 i.toNat ^^^ BitVec.ofInt 64 j.toNat))=_;rw [bv64,bv64,wrap_u64,← UInt64.toBitVec_xor];have:=lt64 (i ^^^ j);change ((i ^^^ j).toNat:Int) % 18446744073709551616=_;omega
 case andNot =>
   refine mk _ _ ?_ (sl_andn hx hy);show IntKind.u64.wrap (BitVec.toNat (BitVec.ofInt 64 i.toNat &&& ~~~BitVec.ofInt 64 j.toNat))=_;rw [bv64,bv64,wrap_u64,← UInt64.toBitVec_not,← UInt64.toBitVec_and];have:=lt64 (i &&& ~~~j);change ((i &&& ~~~j).toNat:Int) % 18446744073709551616=_;omega
 case eql =>
   have h:decide (i=j)=((i.toNat:Int)==j.toNat):=by rw [Bool.eq_iff_iff,decide_eq_true_eq,beq_iff_eq,← UInt64.toNat_inj];omega
   exact mkb _ _ h (sl_of (Sil.eql hx hy))
 case neq =>
   have h:(!decide (i=j))=((i.toNat:Int) != j.toNat):=by
     rw [bne,Bool.not_eq_eq_eq_not,Bool.not_not,Bool.eq_iff_iff,decide_eq_true_eq,beq_iff_eq,← UInt64.toNat_inj];omega
   exact mkb _ _ h (sl_of (Sil.neq hx hy))
 case lss =>
   have h:decide (i<j)=decide ((i.toNat:Int)<j.toNat):=by rw [decide_eq_decide,UInt64.lt_iff_toNat_lt];omega
   exact mkb _ _ h (sl_of (Sil.lss hx hy))
 case leq =>
   have h:decide (i≤j)=decide ((i.toNat:Int)≤j.toNat):=by rw [decide_eq_decide,UInt64.le_iff_toNat_le];omega
   exact mkb _ _ h (sl_of (Sil.leq hx hy))
 case gtr =>
   have h:decide (j<i)=decide ((j.toNat:Int)<i.toNat):=by rw [decide_eq_decide,UInt64.lt_iff_toNat_lt];omega
   exact mkb _ _ h (sl_of (Sil.gtr hx hy))
 case geq =>
   have h:decide (j≤i)=decide ((j.toNat:Int)≤i.toNat):=by rw [decide_eq_decide,UInt64.le_iff_toNat_le];omega
   exact mkb _ _ h (sl_of (Sil.geq hx hy))
theorem fdiv_inR {i:Int} (h:InR i) (k:Nat):InR (i.fdiv (2 ^ k)):=by
 have hp:(0:Int)<2 ^ k:=Int.pow_pos (by decide)
 have e:i.fdiv (2 ^ k)=i / 2 ^ k:=Int.fdiv_eq_ediv_of_nonneg _ (Int.le_of_lt hp);rw [e];unfold InR at h ⊢;constructor
 ·refine(Int.le_ediv_iff_mul_le hp).2 ?_;have:(-9223372036854775808:Int)*2 ^ k≤-9223372036854775808*1:=Int.mul_le_mul_of_nonpos_left (by omega) (by omega)
  omega
 ·by_cases h0:0≤i
  ·exact Int.le_trans (Int.ediv_le_self _ h0) h.2
  ·have:=Int.ediv_neg_of_neg_of_pos (a:=i) (b:=2 ^ k) (by omega) hp
   omega
theorem sh64_ok {op:BinOp} {T T':TypeId} {x y:Operand} {k':IntKind} {i:UInt64} {j:Int} (hx:XK.ev (envA a) x=some (.int .u64 i.toNat)) (hy:XK.ev (envA a) y=some (.int k' j)) :
   PRok (sh64 op i j) (PureV E m ids a ⟨d,.binOp op T x y T',ty,pos,af,g⟩):=by
 have e1:=(okx_envA a).ev hx;have e2:=(okx_envA a).ev hy;have l1:=lt64 i;have mk:∀ (s:UInt64) (n:Int),n=(s.toNat:Int)→Sl E.P a ⟨d,.binOp op T x y T',ty,pos,af,g⟩ (.int .u64 n)→PureV E m ids a ⟨d,.binOp op T x y T',ty,pos,af,g⟩ (.w64 s):=fun s n h k=>.of (by rw [Den,h]) k
 cases op<;>try exact True.intro
 all_goals
   intro h0;have h0':¬ j<0:=by omega
 ·refine mk _ (IntKind.u64.wrap (i.toNat * 2 ^ min j.toNat 64)) ?_ fun w=>?_
  ·rw [wrap_u64];unfold shl64;rw [UInt64.toNat_ofNat',Nat.shiftLeft_eq,show((i.toNat:Int)*2 ^ min j.toNat 64)=((i.toNat * 2 ^ min j.toNat 64:Nat):Int)by rw [Int.natCast_mul,Int.natCast_pow];rfl]
   generalize i.toNat * 2 ^ min j.toNat 64=z;omega
  ·simp [execOp,e1,e2,eqGuard,binOp,Op.shift,h0',silUpon,IntKind.bits]
 ·refine mk _ ((i.toNat:Int).fdiv (2 ^ min j.toNat 64)) ?_ fun w=>?_
  ·unfold shr64;rw [UInt64.toNat_ofNat',Nat.shiftRight_eq_div_pow,Nat.mod_eq_of_lt (Nat.lt_of_le_of_lt (Nat.div_le_self _ _) l1)];rw [Int.fdiv_eq_ediv_of_nonneg _ (Int.le_of_lt (Int.pow_pos (by decide)))]
   rw [Int.natCast_ediv,Int.natCast_pow];rfl
  ·simp [execOp,e1,e2,eqGuard,binOp,Op.shift,h0',silUpon,IntKind.bits]
theorem sh8_ok {op:BinOp} {T T':TypeId} {x y:Operand} {k':IntKind} {i:UInt8} {j:Int} (hx:XK.ev (envA a) x=some (.int .u8 i.toNat)) (hy:XK.ev (envA a) y=some (.int k' j)) :
   PRok (sh8 op i j) (PureV E m ids a ⟨d,.binOp op T x y T',ty,pos,af,g⟩):=by
 have e1:=(okx_envA a).ev hx;have e2:=(okx_envA a).ev hy;have l1:=lt8 i;have mk:∀ (s:UInt8) (n:Int),n=(s.toNat:Int)→Sl E.P a ⟨d,.binOp op T x y T',ty,pos,af,g⟩ (.int .u8 n)→PureV E m ids a ⟨d,.binOp op T x y T',ty,pos,af,g⟩ (.w8 s):=fun s n h k=>.of (by rw [Den,h]) k
 cases op<;>try exact True.intro
 all_goals
   intro h0;have h0':¬ j<0:=by omega
 ·refine mk _ (IntKind.u8.wrap (i.toNat * 2 ^ min j.toNat 8)) ?_ fun w=>?_
  ·rw [wrap_u8];unfold shl8;rw [UInt8.toNat_ofNat',Nat.shiftLeft_eq,show((i.toNat:Int)*2 ^ min j.toNat 8)=((i.toNat * 2 ^ min j.toNat 8:Nat):Int)by rw [Int.natCast_mul,Int.natCast_pow];rfl]
   generalize i.toNat * 2 ^ min j.toNat 8=z;omega
  ·simp [execOp,e1,e2,eqGuard,binOp,Op.shift,h0',silUpon,IntKind.bits]
 ·refine mk _ ((i.toNat:Int).fdiv (2 ^ min j.toNat 8)) ?_ fun w=>?_
  ·unfold shr8;rw [UInt8.toNat_ofNat',Nat.shiftRight_eq_div_pow,Nat.mod_eq_of_lt (Nat.lt_of_le_of_lt (Nat.div_le_self _ _) l1)];rw [Int.fdiv_eq_ediv_of_nonneg _ (Int.le_of_lt (Int.pow_pos (by decide)))]
   rw [Int.natCast_ediv,Int.natCast_pow];rfl
  ·simp [execOp,e1,e2,eqGuard,binOp,Op.shift,h0',silUpon,IntKind.bits]
theorem strB_ok {op:BinOp} {T T':TypeId} {x y:Operand} {s t:ByteArray} (hx:XK.ev (envA a) x=some (.string s)) (hy:XK.ev (envA a) y=some (.string t)) :
   PRok (strB op s t) (PureV E m ids a ⟨d,.binOp op T x y T',ty,pos,af,g⟩):=by
 have e1:=(okx_envA a).ev hx;have e2:=(okx_envA a).ev hy;have eb:(s.toList==t.toList)=decide (s=t):=by rw [Bool.eq_iff_iff,Lib.bytes_beq_iff,decide_eq_true_eq]
 cases op<;>try exact True.intro
 case eql=>exact .of (den_b _) (sl_of (Sil.seql hx hy))
 case neq =>
   exact .of (den_b _) (sl_of (Sil.sneq hx hy))
 case add =>
   intro h0;have h0':¬ (((s.size+t.size:Nat):Int) > IntKind.i64.max):=by rw [STRMAX_eq,STRMAX];omega
   refine .of (v:=.string (s++t)) (by rw [Den];exact⟨rfl,by rw [ByteArray.size_append];exact h0⟩) fun w=>?_
   simp only [execOp,e1,e2,eqGuard,binOp,Op.stringOp];rw [if_neg h0'];simp [silUpon]
 all_goals
   refine .of (den_b _) fun w=>?_
   simp [execOp,e1,e2,eqGuard,binOp,Op.stringOp,silUpon,eb,sless]
theorem nilB_ok {op:BinOp} {e:Bool} {T T':TypeId} {x y:Operand} {b:Option Addr} {n c:Nat} {z:Option Bool} (he:eqOp op=some e) (hx:XK.ev (envA a) x=some (.slice b n c)) (hy:XK.ev (envA a) y=some (.slice none 0 0)) (hz:nilOK z (.slice b n c)) :
   PRok (nilB E e T z) (PureV E m ids a ⟨d,.binOp op T x y T',ty,pos,af,g⟩):=by
 unfold nilB;split
 ·rename_i e' _ _ _ _ _ bz hT;have ht:E.P.underlying T=some (.slice e'):=kn_of hT;simp only [nilOK]at hz;subst hz;have e1:=(okx_envA a).ev hx;have e2:=(okx_envA a).ev hy;cases op<;>simp only [eqOp]at he<;>cases he
  ·exact .of (den_b _) (sl_of (Sil.eqlNil ht hx hy))
  ·refine .of (den_b _) fun w=>?_
   have h:=Lib.run_eql_slice_nil (P:=E.P) w T e' b n c 0 0 ht
   have hq:(Op.equal T (.slice b n c) (.slice none 0 0)).run E.P w=.ok b.isNone w:=by
     simp only [binOp]at h;simp only [Sem.run_bind]at h
     cases hr:(Op.equal T (.slice b n c) (.slice none 0 0)).run E.P w with
     |ok v w' =>
       rw [hr]at h;simp only [Result.andThen_ok,Sem.run_pure,Result.ok.injEq,Value.bool.injEq]at h;rw [h.1,h.2]
     |halt _ _=>rw [hr]at h;cases h
   simp only [execOp,e1,e2,Sem.run_bind,eqGuard_at_slice,Sem.run_pure,Result.andThen_ok,binOp,hq];exact⟨rfl,rfl⟩
 ·exact True.intro
end
end Go.SX
namespace Go.SX
open Go.XK Go.RowKit
section
variable {E:En} {C:Cx} {σ:St} {m:Mm} {ids ids':List Value} {a:Act} {π:Path} {d:Option Tmp} {ty:TypeId} {pos:String} {af:Array Edge} {g:Option (Nat×Bool)}
theorem lst_shape {z:Option Bool} {c:Nat} {l:List (TabT c)} {y:Value} (h:Den m ids (.lst z c l) y):∃ b cp,y=.slice b l.length cp∧nilOK z y:=by
 rw [Den]at h;exact h.shape
theorem isBool_spec {T:TypeId} (h:isBool E T=true):E.P.underlying T=some .bool:=by
 unfold isBool at h;split at h
 ·rename_i hT;exact kn_of hT
 ·cases h
theorem asSh_spec {s:SV} {u:Value} {n:Int} (h:asSh s=some n) (hs:Den m ids s u):∃ k,u=.int k n∧InR n∨u=.int k n∧(k=.u8∨k=.u64):=by
 unfold asSh at h;split at h
 ·cases h;rw [Den]at hs;exact⟨.i64,.inl hs⟩
 ·cases h;rw [Den]at hs;exact⟨.u8,.inr ⟨hs,.inl rfl⟩⟩
 ·cases h;rw [Den]at hs;exact⟨.u64,.inr ⟨hs,.inr rfl⟩⟩
 ·cases h
theorem shI_ok' {op:BinOp} {T T':TypeId} {x y:Operand} {k':IntKind} {i j:Int} (hx:XK.ev (envA a) x=some (.int .i64 i)) (hy:XK.ev (envA a) y=some (.int k' j)) (hi:InR i) :
   PRok (shI op i j) (PureV E m ids a ⟨d,.binOp op T x y T',ty,pos,af,g⟩):=by
 have e1:=(okx_envA a).ev hx;have e2:=(okx_envA a).ev hy;cases op<;>try exact True.intro
 ·refine⟨hi,fun h0=>?_⟩
  have h0':¬ j<0:=by omega
  refine .of (den_w _) fun w=>?_
  simp [execOp,e1,e2,eqGuard,binOp,Op.shift,h0',silUpon,IntKind.bits]
 ·intro h0;have h0':¬ j<0:=by omega
  refine .of (den_i (fdiv_inR hi _)) fun w=>?_
  simp [execOp,e1,e2,eqGuard,binOp,Op.shift,h0',silUpon,IntKind.bits]
theorem binE_ok (hS:Sat C σ m ids a) {op:BinOp} {T T':TypeId} {x y:Operand} {s t:SV} {u v:Value} (hx:XK.ev (envA a) x=some u) (hy:XK.ev (envA a) y=some v) (hs:Den m ids s u) (ht:Den m ids t v) :
   PRok (binE E σ op T s t) (PureV E m ids a ⟨d,.binOp op T x y T',ty,pos,af,g⟩):=by
 unfold binE;split
 ·split
  ·rename_i i n hsh;rw [Den]at hs;obtain⟨rfl,hi⟩:=hs;obtain⟨k,⟨rfl,_⟩|⟨rfl,_⟩⟩:=asSh_spec hsh ht
   ·exact shI_ok' hx hy hi
   ·exact shI_ok' hx hy hi
  ·rename_i i n hsh;rw [Den]at hs;subst hs;obtain⟨k,⟨rfl,_⟩|⟨rfl,_⟩⟩:=asSh_spec hsh ht
   ·exact sh8_ok hx hy
   ·exact sh8_ok hx hy
  ·rename_i i n hsh;rw [Den]at hs;subst hs;obtain⟨k,⟨rfl,_⟩|⟨rfl,_⟩⟩:=asSh_spec hsh ht
   ·exact sh64_ok hx hy
   ·exact sh64_ok hx hy
  ·exact True.intro
 ·split
  ·rw [Den]at hs ht;obtain⟨rfl,hi⟩:=hs;obtain⟨rfl,hj⟩:=ht;exact intB_ok hx hy hi hj
  ·rw [Den]at hs ht;subst hs;subst ht;exact w8B_ok hx hy
  ·rw [Den]at hs ht;subst hs;subst ht;exact w64B_ok hx hy
  ·rename_i p q;rw [Den]at hs ht;subst hs;subst ht;split
   ·rename_i hb he;have hu:=isBool_spec hb;cases op<;>simp only [eqOp]at he<;>cases he;have h:decide (p=q)=(p==q):=by cases p<;>cases q<;>rfl
    exact h ▸ .of (den_b _) (sl_of (Sil.beql hu hx hy))
   ·rename_i hb he;have hu:=isBool_spec hb;cases op<;>simp only [eqOp]at he<;>cases he;have h:(!decide (p=q))=(p != q):=by cases p<;>cases q<;>rfl
    exact h ▸ .of (den_b _) (sl_of (Sil.bneq hu hx hy))
   ·exact True.intro
  ·rw [Den]at hs ht;rw [hs.1]at hx;rw [ht.1]at hy;exact strB_ok hx hy
  ·rename_i us vs;split
   ·rename_i e _ _ _ _ _ k ks he hT;split
    ·rename_i r hr;rw [Den]at hs ht;obtain⟨us',rfl,h1⟩:=hs;obtain⟨vs',rfl,h2⟩:=ht;have hv:=eqSs_spec hr h1 h2;obtain⟨q1,q2⟩:=(E.hT T _ hT).eq (by simp) us' vs' r hv
     have e1:=(okx_envA a).ev hx;have e2:=(okx_envA a).ev hy;cases op<;>simp only [eqOp]at he<;>cases he
     ·refine .of (den_b _) fun w=>?_
      simp only [execOp,e1,e2];rw [Sem.run_bind,q1 x y w];exact⟨rfl,rfl⟩
     ·refine .of (den_b _) fun w=>?_
      simp only [execOp,e1,e2];rw [Sem.run_bind,q2 x y w];exact⟨rfl,rfl⟩
    ·exact True.intro
   ·exact True.intro
  ·rename_i z _ _;split
   ·rename_i e he;obtain⟨b,c,rfl,hz⟩:=lst_shape hs;cases den_v ht;exact nilB_ok he hx hy hz
   ·exact True.intro
  ·split
   ·rename_i e he;cases den_v hs;cases den_v ht;exact nilB_ok he hx hy rfl
   ·exact True.intro
  ·rename_i i;cases den_v ht;rw [Den]at hs;split
   ·rename_i e _ z _ _ he hl;obtain⟨v',uss,h1,h2,_,h4,_⟩:=hS.heap.sat i _ hl;rw [hs.1]at h1;cases h1;obtain⟨b,c,rfl,_⟩:=h2.reads.len;exact nilB_ok he hx hy h4
   ·exact True.intro
  ·exact True.intro
theorem fieldOf_spec {T T':TypeId} {f o:Nat} (h:fieldOf E T f=some (o,T')):∃ fs g,E.P.underlying T=some (.struct fs)∧fs[f]?=some g∧g.offset=o∧g.type=T':=by
 unfold fieldOf at h;split at h
 ·rename_i fs _ _ _ _ _ hT;obtain⟨F,h1,rfl,_⟩:=kn_of hT;rw [nth_eq,List.getElem?_map,Option.map_eq_some_iff]at h;obtain⟨g,hg,e⟩:=h;rw [Prod.mk.injEq]at e;exact⟨F,g,h1,by rw [← Array.getElem?_toList];exact hg,e.1,e.2⟩
 ·cases h
theorem inf_of' {T:TypeId} {i:TyI} (h:E.TI T=some i):Inf E.P T i.z i.size i.bytes:=(E.hT T i h).info
theorem sizeE_spec {T:TypeId} {k:Nat} (h:sizeE E T=some k):∃ z b,Inf E.P T z k b:=by
 unfold sizeE at h;split at h
 ·rename_i i hT;cases h;exact⟨_,_,inf_of' hT⟩
 ·cases h
theorem elemOf_spec {T:TypeId} {k:Nat} (h:elemOf E T=some k):∃ e z b,E.P.underlying T=some (.slice e)∧Inf E.P e z k b:=by
 unfold elemOf at h;split at h
 ·rename_i e _ _ _ _ _ hT;obtain⟨z,b,h1⟩:=sizeE_spec h;exact⟨e,z,b,kn_of hT,h1⟩
 ·cases h
theorem arrayOf_spec {T:TypeId} {n K:Nat} (h:arrayOf E T=some (n,K)):∃ e z b,E.P.underlying T=some (.array n e)∧Inf E.P e z K b:=by
 unfold arrayOf at h;split at h
 ·rename_i n' e _ _ _ _ _ hT;split at h
  ·rename_i K' hr;cases h;obtain⟨z,b,h1⟩:=sizeE_spec hr;exact⟨e,z,b,kn_of hT,h1⟩
  ·cases h
 ·cases h
theorem kd_flat {T:TypeId} (h:kdOf E T=.flat):Flat E.P T:=by
 unfold kdOf at h;unfold Flat;split at h
 ·cases h
 ·cases h
 ·rename_i hT;obtain⟨ms,hu⟩:∃ ms,E.P.underlying T=some (.interface ms):=kn_of hT;rw [hu]
 ·rename_i i h1 h2 h3 hT;have hk:=kn_of hT;cases hkn:i.kn<;>rw [hkn]at hk<;>simp only [KnOK]at hk
  case bool=>rw [hk]
  case int=>rw [hk]
  case str=>rw [hk]
  case slice=>rw [hk]
  case arr n e=>cases i;cases hkn;exact absurd rfl (h2 _ _ _ _ _ _ _)
  case strct fs=>cases i;cases hkn;exact absurd rfl (h1 _ _ _ _ _ _)
  case map=>rw [hk]
  case iface=>obtain⟨ms,hu⟩:=hk;rw [hu]
  case oth =>
    cases hu:E.P.underlying T with
    |none=>rw [hu]at hk;cases hk
    |some D=>rw [hu]at hk;cases D<;>first|rfl|cases hk
 ·cases h
theorem kd_agg {T:TypeId} {k:Nat} (h:kdOf E T=.agg k):Aggr E.P T k:=by
 unfold kdOf at h;unfold Aggr;split at h
 ·rename_i hT;cases h;obtain⟨F,h1,_⟩:=kn_of hT;have hi:=inf_of' hT;obtain⟨inf,h2,_,h3,_⟩:=hi.ex;rw [h1];simp [h2,h3]
 ·rename_i hT;cases h;have h1:E.P.underlying T=some (.array _ _):=kn_of hT;have hi:=inf_of' hT;obtain⟨inf,h2,_,h3,_⟩:=hi.ex;rw [h1];simp [h2,h3]
 ·cases h
 ·cases h
 ·cases h
theorem cells_load {cs:List SV} {us:List Value} {b q o:Nat} {T:TypeId} {x:Operand} (hc:DenL m ids cs us) (hat:At m.w b q us) (hx:XK.ev (envA a) x=some (.pointer (some ⟨b,q+o,none⟩))) :
   PRok (cellsAt E T cs o) (fun s=>∃ v,Den m ids s v∧∀ w,Ext m.w w→exUpon E.P v w ((execOp a.eval ⟨d,.load T x,ty,pos,af,g⟩).run E.P w)):=by
 unfold cellsAt
 cases hk:kdOf E T with
 |bad=>exact True.intro
 |flat =>
   simp only
   cases hn:nth cs o with
   |none=>exact True.intro
   |some s =>
     rw [nth_eq]at hn;obtain⟨u,h1,h2⟩:=hc.get hn;refine⟨u,h2,fun w hw=>Exa.load (wc:=m.w) (kd_flat hk) hx (hat o u h1) a _ (okx_envA a) w hw⟩
 |agg k =>
   simp only;split
   ·rename_i hl
    have hl':(us.drop o |>.take k).length=k:=by
      have h1:=Nat.eq_of_beq_eq_true hl;rw [len_eq,tk_eq,dp_eq]at h1;have:=(DenL.take k (DenL.drop o hc)).length;rw [this,h1]
    have hd:=DenL.take k (DenL.drop o hc);rw [tk_eq,dp_eq];refine⟨.agg ((us.drop o).take k).toArray,by rw [Den];exact⟨_,rfl,hd⟩,fun w hw=>?_⟩
    refine Exa.loadAgg (wc:=m.w) (by rw [hl'];exact kd_agg hk) hx ?_ a _ (okx_envA a) w hw
    intro j v hj;rw [List.getElem?_take]at hj;split at hj
    ·rw [List.getElem?_drop]at hj;rw [Nat.add_assoc];exact hat _ _ hj
    ·cases hj
   ·exact True.intro
theorem kd_part_flat {T:TypeId} (h:kdOf E T=.flat) {us:List Value} {o:Nat} {u:Value} (hu:us[o]?=some u) (w:World):(Go.part T us.toArray o).run E.P w=.ok u w:=by
 have h':=kd_flat h;unfold Flat at h'
 have hagg:(isAgg T).run E.P w=.ok false w:=by
   cases hu:E.P.underlying T with
   |none=>rw [hu]at h';cases h'
   |some D =>
     rw [hu]at h';cases D<;>first|(cases h';done)|simp [isAgg,run_underlying hu]
 simp [Go.part,hagg,hu]
theorem kd_part_agg {T:TypeId} {k:Nat} (h:kdOf E T=.agg k) {us:List Value} {o:Nat} (w:World):(Go.part T us.toArray o).run E.P w=.ok (.agg ((us.drop o).take k).toArray) w:=by
 have ht:=kd_agg h;unfold Aggr at ht
 have hagg:(isAgg T).run E.P w=.ok true w∧(sizeOf T).run E.P w=.ok k w:=by
   cases hu:E.P.underlying T with
   |none=>rw [hu]at ht;cases ht
   |some D =>
     rw [hu]at ht
     cases hi:E.P.info? T with
     |none=>rw [hi]at ht;cases D<;>cases ht
     |some i=>rw [hi]at ht;cases D<;>first|(cases ht;done)|(simp at ht;simp [isAgg,run_underlying hu,sizeOf,typeInfo,hi,ht])
 simp only [Go.part,Sem.run_bind,hagg.1,hagg.2,Result.andThen_ok,if_true,Sem.run_pure]
 congr 2
 apply Array.ext';simp [List.extract_eq_take_drop]
theorem cells_part {cs:List SV} {us:List Value} {o:Nat} {T:TypeId} (hc:DenL m ids cs us):PRok (cellsAt E T cs o) (fun s=>∃ v,Den m ids s v∧∀ w,(Go.part T us.toArray o).run E.P w=.ok v w):=by
 unfold cellsAt
 cases hk:kdOf E T with
 |bad=>exact True.intro
 |flat =>
   simp only
   cases hn:nth cs o with
   |none=>exact True.intro
   |some s =>
     rw [nth_eq]at hn;obtain⟨u,h1,h2⟩:=hc.get hn;exact⟨u,h2,kd_part_flat hk h1⟩
 |agg k =>
   simp only;split
   ·have hd:=DenL.take k (DenL.drop o hc);rw [tk_eq,dp_eq];exact⟨.agg ((us.drop o).take k).toArray,by rw [Den];exact⟨_,rfl,hd⟩,kd_part_agg hk⟩
   ·exact True.intro
theorem fieldAddrE_ok {T:TypeId} {x:Operand} {f:Nat} {s:SV} {u:Value} (hx:XK.ev (envA a) x=some u) (hs:Den m ids s u):PRok (fieldAddrE E T s f) (PureV E m ids a ⟨d,.fieldAddr T x f,ty,pos,af,g⟩):=by
 unfold fieldAddrE;split
 ·rename_i o' T' hf;obtain⟨fs,fd,h1,h2,rfl,rfl⟩:=fieldOf_spec hf;split
  ·rename_i n hr;obtain⟨z,by',h3⟩:=sizeE_spec hr;split
   ·rename_i i o;rw [Den]at hs;obtain⟨b,h4,rfl⟩:=hs;exact .of (by rw [Den];exact⟨b,h4,rfl⟩) (sl_of (Sil.fieldAddr h1 h2 h3 hx))
   ·rename_i cs o;rw [Den]at hs;obtain⟨b,q,us,rfl,h4⟩:=hs;exact .of (by rw [Den];exact⟨b,q,us,by rw [Nat.add_assoc],h4⟩) (sl_of (Sil.fieldAddr h1 h2 h3 hx))
   ·rw [Den]at hs;obtain⟨b,q,n,c,h4,h5,h6,rfl⟩:=hs;exact .of (by rw [Den];exact⟨b,q,n,c,h4,h5,h6,by rw [Nat.add_assoc]⟩) (sl_of (Sil.fieldAddr h1 h2 h3 hx))
   ·rw [Den]at hs;obtain⟨b,h4,h5,h6,rfl⟩:=hs;exact .of (by rw [Den];exact⟨b,h4,h5,h6,by rw [Nat.add_assoc]⟩) (sl_of (Sil.fieldAddr h1 h2 h3 hx))
   ·exact True.intro
  ·exact True.intro
 ·exact True.intro
theorem fieldE_ok {T:TypeId} {x:Operand} {f:Nat} {s:SV} {u:Value} (hx:XK.ev (envA a) x=some u) (hs:Den m ids s u):PRok (fieldE E T s f) (PureV E m ids a ⟨d,.field T x f,ty,pos,af,g⟩):=by
 unfold fieldE;split
 ·rename_i cs;rw [Den]at hs;obtain⟨us,rfl,h⟩:=hs;split
  ·rename_i o T' hf;obtain⟨fs,fd,h1,h2,rfl,rfl⟩:=fieldOf_spec hf;refine(cells_part h).mono fun s' ⟨v,hv,hr⟩=>.of hv fun w=>?_
   have e1:=(okx_envA a).ev hx;simp only [execOp,e1,Instr.field,Sem.run_bind,run_underlying h1,Result.andThen_ok,h2,asAgg,Sem.run_pure,hr];exact⟨rfl,rfl⟩
  ·exact True.intro
 ·exact True.intro
theorem sl_array {x y:Operand} {T e:TypeId} {n K b o by':Nat} {z:Value} {k:IntKind} {i:Int} (ht:E.P.underlying T=some (.array n e)) (hi:Inf E.P e z K by') (hx:XK.ev (envA a) x=some (.pointer (some ⟨b,o,none⟩))) (hy:XK.ev (envA a) y=some (.int k i)) (h0:0≤i) (h1:i<n) :
   Sl E.P a ⟨d,.indexAddr T x y,ty,pos,af,g⟩ (.pointer (some ⟨b,o+i.toNat * K,none⟩)):=fun w=>by
 obtain⟨inf,h2,h3,h4,h5⟩:=hi.ex;have e1:=(okx_envA a).ev hx;have e2:=(okx_envA a).ev hy;simp [execOp,e1,e2,Instr.indexAt,asIntOf,run_underlying ht,Instr.sureAddr,h0,h1,sizeOf,typeInfo,h2,h4,silUpon,Addr.add_mid]
theorem asIx_spec {s:SV} {u:Value} {n:Int} (h:asIx s=some n) (hs:Den m ids s u):∃ k,u=.int k n:=by
 unfold asIx at h;split at h
 ·cases h;rw [Den]at hs;exact⟨_,hs.1⟩
 ·cases h;rw [Den]at hs;exact⟨_,hs⟩
 ·cases h
theorem indexE_ok (hS:Sat C σ m ids a) {T:TypeId} {x y:Operand} {s:SV} {k:Int} {u:Value} {ik:IntKind} (hx:XK.ev (envA a) x=some u) (hy:XK.ev (envA a) y=some (.int ik k)) (hs:Den m ids s u) :
   PRok (indexE E σ T s k) (PureV E m ids a ⟨d,.indexAddr T x y,ty,pos,af,g⟩):=by
 unfold indexE;split
 ·rename_i cs;split
  ·rename_i he;intro ⟨h0,h1⟩;obtain⟨e,zz,bb,h2,h3⟩:=elemOf_spec he;rw [Den]at hs;obtain⟨b,q,us,rfl,hle,h4,h5,h6⟩:=hs;rw [len_eq,← h6.length]at h1;have:=(sl_of (Sil.indexAddr (d:=d) (ty:=ty) (pos:=pos) (af:=af) (g:=g) h2 h3 hx hy h0 h1));rw [Nat.mul_one]at this;exact .of (by rw [Den];exact⟨b,q,us,rfl,h4,h5,h6⟩) this
  ·exact True.intro
 ·rename_i z c l;split
  ·rename_i K' he;split
   ·rename_i cs hk hcs;have hk:=Nat.eq_of_beq_eq_true hk;intro ⟨h0,h1⟩;obtain⟨e,zz,bb,h2,h3⟩:=elemOf_spec he;rw [Den]at hs;obtain⟨b,q,cp,us,rfl,h4,h5,h6⟩:=hs.elem (k:=k.toNat) (by omega) (TabZ c)
    rw [← hk]at h3;exact .of (by rw [Den];exact⟨b,q+k.toNat * KT c,us,rfl,h4,h5,(ES_iff c _ hcs).1 h6⟩) (sl_of (Sil.indexAddr h2 h3 hx hy h0 h1))
   ·exact True.intro
  ·exact True.intro
 ·rename_i i;rw [Den]at hs;split
  ·rename_i K' _ _ c l he hl;split
   ·rename_i hk;have hk:=Nat.eq_of_beq_eq_true hk;intro ⟨h0,h1⟩;obtain⟨e,zz,bb,h2,h3⟩:=elemOf_spec he;obtain⟨v',uss,h4,h5,_⟩:=hS.heap.sat i _ hl;rw [hs.1]at h4;cases h4;obtain⟨b,q,cp,rfl,_⟩:=h5.reads.has (by omega)
    rw [← hk]at h3;exact .of (by rw [Den];exact⟨b,q,_,cp,hs.1,h0,h1,rfl⟩) (sl_of (Sil.indexAddr h2 h3 hx hy h0 h1))
   ·exact True.intro
  ·rename_i K' _ c l he hl;split
   ·rename_i cs hk hcs;have hk:=Nat.eq_of_beq_eq_true hk;intro ⟨h0,h1⟩;obtain⟨e,zz,bb,h2,h3⟩:=elemOf_spec he;obtain⟨v',h4,h5⟩:=hS.heap.sat i _ hl;rw [hs.1]at h4;cases h4;obtain⟨b,q,cp,us,rfl,h4,h5,h6⟩:=h5.elem (k:=k.toNat) (by omega) (TabZ c)
    rw [← hk]at h3;exact .of (by rw [Den];exact⟨b,q+k.toNat * KT c,us,rfl,h4,h5,(ES_iff c _ hcs).1 h6⟩) (sl_of (Sil.indexAddr h2 h3 hx hy h0 h1))
   ·exact True.intro
  ·exact True.intro
 ·rename_i i;rw [Den]at hs;split
  ·rename_i _ _ _ _ l _ he hl;intro ⟨h0,h1⟩;obtain⟨vs,hid,_⟩:=hs;obtain⟨e,zz,bb,h2,h3⟩:=elemOf_spec he;obtain⟨v',vs',us,h4,h5⟩:=hS.heap.sat i _ hl;obtain⟨rfl,rfl⟩:=tup_inj hid h4;obtain⟨b,q,cp,rfl,_⟩:=h5.out.reads.has (by omega)
   have:=(sl_of (Sil.indexAddr (d:=d) (ty:=ty) (pos:=pos) (af:=af) (g:=g) h2 h3 hx hy h0 h1));rw [Nat.mul_one]at this;exact .of (by rw [Den];exact⟨b,q,_,cp,_,hid,h0,h1,rfl⟩) this
  ·exact True.intro
 ·rename_i i c lo hi;rw [Den]at hs;obtain⟨ad,n,cp,hid,h0,h1,h2,hn,hc,_,rfl⟩:=hs;split
  ·rename_i K' he;split
   ·rename_i hk;have hk:=Nat.eq_of_beq_eq_true hk;intro ⟨h3,h4⟩;obtain⟨e,zz,bb,h5,h6⟩:=elemOf_spec he;rw [← hk]at h6;obtain⟨b,q,rfl⟩:=hn (by omega)
    have hne:¬ cp=lo.toNat:=by omega
    simp only [subV,hne,if_false,Option.map_some,Addr.add_mid]at hx;refine .of (by rw [Den];exact⟨b,q,n,cp,hid,by omega,by omega,rfl⟩) ?_
    have h7:=sl_of (Sil.indexAddr (d:=d) (ty:=ty) (pos:=pos) (af:=af) (g:=g) h5 h6 hx hy h3 (by omega))
    have e1:q+lo.toNat * KT c+k.toNat * KT c=q+(lo+k).toNat * KT c+0:=by
      rw [show(lo+k).toNat=lo.toNat+k.toNat by omega,Nat.add_mul];omega
    rw [e1]at h7;exact h7
   ·exact True.intro
  ·exact True.intro
 ·rename_i i c N lo hi;rw [Den]at hs;obtain⟨b,hid,h0,h1,h2,_,rfl⟩:=hs;split
  ·rename_i K' he;split
   ·rename_i hk;have hk:=Nat.eq_of_beq_eq_true hk;intro ⟨h3,h4⟩;obtain⟨e,zz,bb,h5,h6⟩:=elemOf_spec he;rw [← hk]at h6;have hne:¬ N=lo.toNat:=by omega
    simp only [subV,hne,if_false,Option.map_some,Addr.add_mid]at hx;refine .of (by rw [Den];exact⟨b,hid,by omega,by omega,rfl⟩) ?_
    have h7:=sl_of (Sil.indexAddr (d:=d) (ty:=ty) (pos:=pos) (af:=af) (g:=g) h5 h6 hx hy h3 (by omega))
    have e1:0+lo.toNat * KT c+k.toNat * KT c=(lo+k).toNat * KT c+0:=by
      rw [show(lo+k).toNat=lo.toNat+k.toNat by omega,Nat.add_mul];omega
    rw [e1]at h7;exact h7
   ·exact True.intro
  ·exact True.intro
 ·rename_i i;rw [Den]at hs;obtain⟨b,h1,rfl⟩:=hs;split
  ·rename_i n K' _ N c l he hl;split
   ·rename_i hk hn;have hk:=Nat.eq_of_beq_eq_true hk;have hn:=Nat.eq_of_beq_eq_true hn;intro ⟨h2,h3⟩;obtain⟨e,zz,bb,h4,h5⟩:=arrayOf_spec he;rw [← hk]at h5;rw [hn]at h4;exact .of (by rw [Den];exact⟨b,h1,h2,h3,by rw [Nat.zero_add,Nat.add_zero]⟩) (sl_array h4 h5 hx hy h2 h3)
   ·exact True.intro
  ·exact True.intro
 ·rename_i c N l;rw [Den]at hs;obtain⟨b,q,uss,rfl,h4,h5,h6,h7⟩:=hs;split
  ·rename_i n K' he;split
   ·rename_i cs hk hn hcs;have hk:=Nat.eq_of_beq_eq_true hk;have hn:=Nat.eq_of_beq_eq_true hn;intro ⟨h2,h3⟩;obtain⟨e,zz,bb,h8,h9⟩:=arrayOf_spec he;rw [← hk]at h9;rw [hn]at h8;obtain⟨us,h10,_,h11⟩:=h6.at h5 (k:=k.toNat) (by omega) (TabZ c)
    exact .of (by rw [Den];exact⟨b,q+k.toNat * KT c,us,rfl,h4,h10,(ES_iff c _ hcs).1 h11⟩) (sl_array h8 h9 hx hy h2 h3)
   ·exact True.intro
  ·exact True.intro
 ·exact True.intro
theorem byte_get {s:ByteArray} {k:Nat} (h:k<s.size):s[k]?=some (byteAt s k):=by
 have:((k:Int)).toNat=k:=by omega
 unfold byteAt;rw [this];have hk:(s[k]?).isSome=true:=by simp [h]
 cases hq:s[k]? with
 |none=>rw [hq]at hk;cases hk
 |some v=>rfl
theorem asIs_spec:∀ {cs:List SV} {l:List Int} {us:List Value},asIs cs=some l→DenL m ids cs us→us=l.map (fun n=>Value.int .i64 n)∧∀ n∈l,InR n
 |[],l,us,h,hd=>by
   simp only [asIs,Option.some.injEq]at h;subst h;exact⟨hd.nil,fun _ h=>by cases h⟩
 |.i n::r,l,us,h,hd=>by
   simp only [asIs]at h;split at h
   ·rename_i l' hl;cases h;rw [DenL]at hd;obtain⟨u,us',rfl,h2,h3⟩:=hd;rw [Den]at h2;obtain⟨h4,h5⟩:=asIs_spec hl h3;refine⟨by rw [h2.1,h4];rfl,fun k hk=>?_⟩
    rcases List.mem_cons.1 hk with rfl|hk
    ·exact h2.2
    ·exact h5 k hk
   ·cases h
 |.v _::_,_,_,h,_=>by simp [asIs]at h
 |.b _::_,_,_,h,_=>by simp [asIs]at h
 |.w8 _::_,_,_,h,_=>by simp [asIs]at h
 |.w32 _::_,_,_,h,_=>by simp [asIs]at h
 |.w64 _::_,_,_,h,_=>by simp [asIs]at h
 |.str _::_,_,_,h,_=>by simp [asIs]at h
 |.loc .. :: _,_,_,h,_=>by simp [asIs]at h
 |.osl .. :: _,_,_,h,_=>by simp [asIs]at h
 |.nso .. :: _,_,_,h,_=>by simp [asIs]at h
 |.noe .. :: _,_,_,h,_=>by simp [asIs]at h
 |.sub .. :: _,_,_,h,_=>by simp [asIs]at h
 |.oel .. :: _,_,_,h,_=>by simp [asIs]at h
 |.vel .. :: _,_,_,h,_=>by simp [asIs]at h
 |.vsl .. :: _,_,_,h,_=>by simp [asIs]at h
 |.av .. :: _,_,_,h,_=>by simp [asIs]at h
 |.lst .. :: _,_,_,h,_=>by simp [asIs]at h
 |.fp .. :: _,_,_,h,_=>by simp [asIs]at h
 |.fvec .. :: _,_,_,h,_=>by simp [asIs]at h
 |.fsl .. :: _,_,_,h,_=>by simp [asIs]at h
 |.agg .. :: _,_,_,h,_=>by simp [asIs]at h
 |.tup .. :: _,_,_,h,_=>by simp [asIs]at h
 |.clo .. :: _,_,_,h,_=>by simp [asIs]at h
 |.ifc .. :: _,_,_,h,_=>by simp [asIs]at h
 |.un::_,_,_,h,_=>by simp [asIs]at h
theorem idxE_ok {T:TypeId} {x y:Operand} {s:SV} {k:Int} {ik:IntKind} {u:Value} (hx:XK.ev (envA a) x=some u) (hy:XK.ev (envA a) y=some (.int ik k)) (hs:Den m ids s u) :
   PRok (idxE E T s k) (PureV E m ids a ⟨d,.index T x y,ty,pos,af,g⟩):=by
 have e1:=(okx_envA a).ev hx;have e2:=(okx_envA a).ev hy;unfold idxE;split
 ·rename_i b hT;have hu:E.P.underlying T=some .string:=kn_of hT;rw [Den]at hs;obtain⟨rfl,_⟩:=hs;intro ⟨h0,h1⟩;refine .of (by rw [Den]) fun w=>?_
  have hlt:k.toNat<b.size:=by omega
  have hb:=byte_get hlt;rw [show((k.toNat:Nat):Int)=k by omega]at hb
  simp [execOp,e1,e2,Instr.index,asIntOf,run_underlying hu,h0,hb,silUpon]
 ·rename_i n e _ _ _ _ _ cs hT;have hu:E.P.underlying T=some (.array n e):=kn_of hT;rw [Den]at hs;obtain⟨us,rfl,hs⟩:=hs;split
  ·rename_i l hl hf hz;split
   ·rename_i hn;have hn:=Nat.eq_of_beq_eq_true hn;rw [len_eq]at hn;intro ⟨h0,h1⟩;obtain⟨h3,h4⟩:=asIs_spec hl hs;obtain⟨zv,bb,h5⟩:=sizeE_spec hz;obtain⟨inf,h6,_,h7,_⟩:=h5.ex;have hlt:k.toNat<l.length:=by omega
    have hg:l.getD k.toNat 0=l[k.toNat]:=by rw [List.getD_eq_getElem?_getD,List.getElem?_eq_getElem hlt];rfl
    refine .of (v:=.int .i64 (l.getD k.toNat 0)) (den_i (by rw [hg];exact h4 _ (List.getElem_mem hlt))) fun w=>?_
    have hp:=kd_part_flat (E:=E) hf (us:=us) (o:=k.toNat) (u:=.int .i64 (l.getD k.toNat 0)) (by rw [h3,hg];simp [hlt]) w
    simp only [execOp,e1,e2,Instr.index,asIntOf,Sem.run_bind,Sem.run_pure,Result.andThen_ok,run_underlying hu];rw [if_pos (by omega)]
    simp [sizeOf,typeInfo,h6,h7,hp,silUpon]
   ·exact True.intro
  ·exact True.intro
 ·rename_i n e _ _ _ _ _ c N l hT;have hu:E.P.underlying T=some (.array n e):=kn_of hT;rw [Den]at hs;obtain⟨uss,rfl,hel,hN⟩:=hs;split
  ·rename_i s hf hz hes;split
   ·rename_i hn;have hn:=Nat.eq_of_beq_eq_true hn;intro ⟨h0,h1⟩;obtain⟨zv,bb,h5⟩:=sizeE_spec hz;obtain⟨inf,h6,_,h7,_⟩:=h5.ex;have hlt:k.toNat<l.length:=by omega
    have hg:gt c l k.toNat=l[k.toNat]:=by unfold gt;rw [List.getD_eq_getElem?_getD,List.getElem?_eq_getElem hlt];rfl
    obtain⟨us,q1,q2⟩:=hel.2.2 k.toNat l[k.toNat] (List.getElem?_eq_getElem hlt);rw [← hg]at q2;have q3:=(ES_iff (ids:=ids) c _ hes).1 q2;rw [DenL]at q3;obtain⟨u,us',rfl,q4,q5⟩:=q3;rw [DenL]at q5;subst q5;have hlu:k.toNat<uss.length:=by rw [hel.1];exact hlt
    have hget:uss[k.toNat]=[u]:=by rw [List.getElem?_eq_getElem hlu]at q1;exact Option.some.inj q1
    have hK:KT c=1:=by rw [← hel.2.1 uss[k.toNat] (List.getElem_mem hlu),hget];rfl
    have hfl:uss.flatten[k.toNat]?=some u:=by
      have:=flatten_get uss k.toNat 0 hel.2.1 hlu (by rw [hK];exact Nat.one_pos)
      rw [hK,Nat.mul_one,Nat.add_zero,hget]at this;exact this
    refine .of (v:=u) q4 fun w=>?_
    have hp:=kd_part_flat (E:=E) hf (us:=uss.flatten) (o:=k.toNat) hfl w;simp only [execOp,e1,e2,Instr.index,asIntOf,Sem.run_bind,Sem.run_pure,Result.andThen_ok,run_underlying hu];rw [if_pos (by omega)]
    simp [sizeOf,typeInfo,h6,h7,hp,silUpon]
   ·exact True.intro
  ·exact True.intro
 ·exact True.intro
theorem loadE_ok (hS:Sat C σ m ids a) {T:TypeId} {x:Operand} {s:SV} {u:Value} (hx:XK.ev (envA a) x=some u) (hs:Den m ids s u) :
   PRok (loadE E σ T s) (fun r=>∃ v,Den m ids r v∧∀ w,Ext m.w w→exUpon E.P v w ((execOp a.eval ⟨d,.load T x,ty,pos,af,g⟩).run E.P w)):=by
 unfold loadE;split
 ·rename_i i o;rw [Den]at hs;obtain⟨b,h1,rfl⟩:=hs;split
  ·rename_i T' cs hl;obtain⟨b',vs,h2,h3,h4⟩:=hS.heap.sat i _ hl;rw [h1]at h2;cases h2;exact cells_load (q:=0) h4 h3.at (by rw [Nat.zero_add];exact hx)
  ·rename_i T' cs hl;obtain⟨b',vs,h2,h3,h4,_⟩:=hS.heap.sat i _ hl;rw [h1]at h2;cases h2;exact cells_load (q:=0) h4 h3.at (by rw [Nat.zero_add];exact hx)
  ·rename_i T' N c l hl;obtain⟨b',uss,h2,h3,h4,h5⟩:=hS.heap.sat i _ hl;rw [h1]at h2;cases h2;split
   ·rename_i kk hk;split
    ·rename_i hkn;have hlen:uss.flatten.length=kk:=by rw [Nat.eq_of_beq_eq_true hkn,h4.flat,h5]
     refine⟨.agg uss.flatten.toArray,by rw [Den];exact⟨uss,rfl,h4,h5⟩,fun w hw=>?_⟩
     exact Exa.loadAgg (wc:=m.w) (by rw [hlen];exact kd_agg hk) hx h3.at a _ (okx_envA a) w hw
    ·exact True.intro
   ·exact True.intro
  ·exact True.intro
 ·rename_i cs o;rw [Den]at hs;obtain⟨b,q,us,rfl,_,h2,h3⟩:=hs;exact cells_load h3 h2 hx
 ·rename_i c N l;rw [Den]at hs;obtain⟨b,q,uss,rfl,_,h2,h4,h5⟩:=hs;split
  ·rename_i kk hk;split
   ·rename_i hkn;have hlen:uss.flatten.length=kk:=by rw [Nat.eq_of_beq_eq_true hkn,h4.flat,h5]
    refine⟨.agg uss.flatten.toArray,by rw [Den];exact⟨uss,rfl,h4,h5⟩,fun w hw=>?_⟩
    exact Exa.loadAgg (wc:=m.w) (by rw [hlen];exact kd_agg hk) hx h2 a _ (okx_envA a) w hw
   ·exact True.intro
  ·exact True.intro
 ·rename_i i c k o;rw [Den]at hs;obtain⟨b,q,n,cp,h1,h2,h3,rfl⟩:=hs;split
  ·rename_i _ _ c' l' hl;split
   ·rename_i l hcast;obtain⟨e,hcast⟩:=castL_some hcast;subst e;cases hcast;obtain⟨v',uss,h4,h5,h6,_⟩:=hS.heap.sat i _ hl;rw [h1]at h4;cases h4;have hr:=h5.reads;obtain⟨b2,c2,e,_⟩:=hr.len;injection e with e1 e2 e3
    obtain⟨b3,q3,c3,e',_,_,hat⟩:=hr.has (by omega)
    injection e' with e1' _ _
    cases e1';obtain⟨us,h7,_,h9⟩:=h6.at hat (k:=k.toNat) (by omega) (TabZ c')
    split
    ·rename_i cs hcs;exact cells_load ((ES_iff c' _ hcs).1 h9) h7 hx
    ·exact True.intro
   ·exact True.intro
  ·exact True.intro
 ·rename_i i c N k o;rw [Den]at hs;obtain⟨b,h1,h2,h3,rfl⟩:=hs;split
  ·rename_i _ N' c' l' hl;split
   ·rename_i l hcast hn;obtain⟨e,hcast⟩:=castL_some hcast;subst e;cases hcast;have hn:=Nat.eq_of_beq_eq_true hn;subst hn;obtain⟨b',uss,h4,h5,h6,h7⟩:=hS.heap.sat i _ hl;rw [h1]at h4;cases h4;obtain⟨us,h8,_,h9⟩:=h6.at h5.at (k:=k.toNat) (by omega) (TabZ c')
    rw [Nat.zero_add]at h8;split
    ·rename_i cs hcs;exact cells_load ((ES_iff c' _ hcs).1 h9) h8 hx
    ·exact True.intro
   ·exact True.intro
  ·exact True.intro
 ·exact True.intro
theorem len_le {c n:Nat} (h:n*BT c≤140737488355328):n≤140737488355328:=Nat.le_trans (by have:=Nat.mul_le_mul_left n (BT_pos c);omega) h
theorem ofInt8 (n:Int):((UInt8.ofInt n).toNat:Int)=n % 256:=by
 show((UInt8.ofNat (n % 2 ^ 8).toNat).toNat:Int)=_;rw [UInt8.toNat_ofNat'];omega
theorem ofInt64 (n:Int):((UInt64.ofInt n).toNat:Int)=n % 18446744073709551616:=by
 show((UInt64.ofNat (n % 2 ^ 64).toNat).toNat:Int)=_;rw [UInt64.toNat_ofNat'];omega
theorem inR_nat {n:Nat} (h:n≤140737488355328):InR (n:Int):=by unfold InR;omega
theorem lenE_ok (hS:Sat C σ m ids a) {T:TypeId} {x:Operand} {s:SV} {u:Value} {ts:Array TypeId} (hts:ts = #[T]) (hx:XK.ev (envA a) x=some u) (hs:Den m ids s u) :
   PRok (lenE E σ T s) (fun r=>∃ v,Den m ids r v∧∀ w,Ext m.w w→exUpon E.P v w ((execOp a.eval ⟨d,.call ⟨.builtin .len,#[x],ts⟩,ty,pos,af,g⟩).run E.P w)):=by
 subst hts;have e1:=(okx_envA a).ev hx
 have mk:∀ (r:SV) (v:Value),Den m ids r v→Sl E.P a ⟨d,.call ⟨.builtin .len,#[x],#[T]⟩,ty,pos,af,g⟩ v→∃ v,Den m ids r v∧∀ w,Ext m.w w→exUpon E.P v w ((execOp a.eval ⟨d,.call ⟨.builtin .len,#[x],#[T]⟩,ty,pos,af,g⟩).run E.P w) :=
   fun r v h k=>⟨v,h,fun w _=>exu (k w)⟩
 unfold lenE;split
 ·rename_i e _ _ _ _ _ z c l hT;have hu:E.P.underlying T=some (.slice e):=kn_of hT;rw [Den]at hs;obtain⟨uss,h1,_,_,_,h6⟩:=id hs;obtain⟨b,cp,rfl,_⟩:=hs.shape;have h7:=len_le h6;exact⟨⟨h6,h7⟩,mk _ _ (den_i (inR_nat h7)) (sl_of (Sil.len hu hx))⟩
 ·rename_i e _ _ _ _ _ hT;have hu:E.P.underlying T=some (.slice e):=kn_of hT;cases den_v hs;exact mk _ _ (den_i (by unfold InR;omega)) (sl_of (Sil.len hu hx))
 ·rename_i e _ _ _ _ _ i hT;have hu:E.P.underlying T=some (.slice e):=kn_of hT;rw [Den]at hs;split
  ·rename_i _ _ c l hl;obtain⟨v',uss,h1,h2,_,_,h5⟩:=hS.heap.sat i _ hl;rw [hs.1]at h1;cases h1;obtain⟨b,cp,rfl,_⟩:=h2.reads.len;have h7:=len_le h5;exact⟨⟨h5,h7⟩,mk _ _ (den_i (inR_nat h7)) (sl_of (Sil.len hu hx))⟩
  ·rename_i _ c l hl;obtain⟨v',h1,h2⟩:=hS.heap.sat i _ hl;rw [hs.1]at h1;cases h1;obtain⟨uss,h1,_,_,_,h6⟩:=id h2;obtain⟨b,cp,rfl,_⟩:=h2.shape;have h7:=len_le h6;exact⟨⟨h6,h7⟩,mk _ _ (den_i (inR_nat h7)) (sl_of (Sil.len hu hx))⟩
  ·exact True.intro
 ·rename_i e _ _ _ _ _ i hT;have hu:E.P.underlying T=some (.slice e):=kn_of hT;rw [Den]at hs;split
  ·rename_i _ _ c _ l _ hl;obtain⟨vs,hid,_⟩:=hs;obtain⟨v',vs',us,h4,h5⟩:=hS.heap.sat i _ hl;obtain⟨rfl,rfl⟩:=tup_inj hid h4;obtain⟨b,cp,rfl,_⟩:=h5.out.reads.len;have h7:=len_le h5.B;exact⟨⟨h5.B,h7⟩,mk _ _ (den_i (inR_nat h7)) (sl_of (Sil.len hu hx))⟩
  ·exact True.intro
 ·rename_i e _ _ _ _ _ i c lo hi hT;have hu:E.P.underlying T=some (.slice e):=kn_of hT;rw [Den]at hs;obtain⟨ad,n,cp,hid,h0,h1,h2,hn,hc,h7,rfl⟩:=hs;have h8:=h7;refine mk _ (.int .i64 ((hi.toNat-lo.toNat:Nat):Int)) ?_ (sl_of (Sil.len hu hx));rw [show((hi.toNat-lo.toNat:Nat):Int)=hi-lo by omega]
  exact den_i (by unfold InR;omega)
 ·rename_i e _ _ _ _ _ i c N lo hi hT;have hu:E.P.underlying T=some (.slice e):=kn_of hT;rw [Den]at hs;obtain⟨b,hid,h0,h1,h2,h7,rfl⟩:=hs;refine mk _ (.int .i64 ((hi.toNat-lo.toNat:Nat):Int)) ?_ (sl_of (Sil.len hu hx));rw [show((hi.toNat-lo.toNat:Nat):Int)=hi-lo by omega]
  exact den_i (by unfold InR;omega)
 ·rename_i e _ _ _ _ _ cs hT;have hu:E.P.underlying T=some (.slice e):=kn_of hT;rw [Den]at hs;obtain⟨b,q,us,rfl,hle,h4,h5,h6⟩:=hs;rw [len_eq,← h6.length];exact mk _ _ (den_i (inR_nat (by omega))) (sl_of (Sil.len hu hx))
 ·rename_i s' hT;have hu:E.P.underlying T=some .string:=kn_of hT;rw [Den]at hs;obtain⟨rfl,h1⟩:=hs;refine⟨h1,mk _ _ (den_i (by unfold InR;unfold STRMAX at h1;omega)) fun w=>?_⟩
  simp [execOp,resolve,invoke,builtin,e1,Builtin.len_,run_underlying hu,silUpon,goInt]
 ·rename_i kk vv _ _ _ _ _ i hT;have hu:E.P.underlying T=some (.map kk vv):=kn_of hT;rw [Den]at hs;split
  ·rename_i kc vc l hl;obtain⟨b,h1,⟨es,ck,h2,h3⟩,_⟩:=hS.heap.sat i _ hl;rw [hs.1]at h1;cases h1
   have hlen:es.size=l.length:=by
     have:=congrArg List.length h3;simpa using this
   intro hle;refine⟨_,den_i (n:=(l.length:Int)) (by unfold InR;omega),fun w hw=>?_⟩
   have hlt:b<m.w.heap.size:=(Array.getElem?_eq_some_iff.1 h2).1;have h2':w.heap[b]?=some (.map es ck):=(hw.block b hlt).trans h2;have hg:(getObj b).run E.P w=.ok (.map es ck) w:=by simp [getObj,Sem.run,h2']
   have hl:(Builtin.len_ #[T] ty #[.map (some b)]).run E.P w=.ok (goInt es.size) w:=by
     simp only [Builtin.len_,List.getElem?_toArray,List.getElem?_cons_zero,Sem.run_bind,run_underlying hu,Result.andThen_ok,hg,Sem.run_pure]
   simp only [execOp,resolve,invoke,builtin,Sem.run_bind,Sem.run_pure,Result.andThen_ok,List.map_toArray,List.map_cons,List.map_nil,e1,hl];rw [hlen];exact⟨rfl,Ext.refl _⟩
  ·exact True.intro
 ·exact True.intro
theorem convE_ok {S T:TypeId} {x:Operand} {s:SV} {u:Value} (hx:XK.ev (envA a) x=some u) (hs:Den m ids s u):PRok (convE E S T s) (PureV E m ids a ⟨d,.convert S T x,ty,pos,af,g⟩):=by
 have e1:=(okx_envA a).ev hx;unfold convE;split
 ·rename_i k0 _ _ _ _ _ k _ _ _ _ _ hS hT;have hu:E.P.underlying S=some (.int k0):=kn_of hS;have hv:E.P.underlying T=some (.int k):=kn_of hT
  have run:∀ (k':IntKind) (n:Int),u=.int k' n→Sl E.P a ⟨d,.convert S T x,ty,pos,af,g⟩ (.int k (k.wrap n)):=fun k' n hn w=>by
    subst hn;simp [execOp,e1,Go.convert,run_underlying hu,run_underlying hv,Conv.intToInt,silUpon]
  split
  ·rw [Den]at hs;have h:=run _ _ hs.1;rw [wrap_id hs.2]at h;exact .of (den_i hs.2) h
  ·rename_i n;rw [Den]at hs;refine .of (by rw [Den]) (v:=.int .u8 ((UInt8.ofInt n).toNat)) ?_
   have h:=run _ _ hs.1
   have e:IntKind.u8.wrap n=((UInt8.ofInt n).toNat:Int):=by
     rw [wrap_u8,ofInt8]
   rw [e]at h;exact h
  ·rename_i n;rw [Den]at hs;refine .of (by rw [Den]) (v:=.int .u64 ((UInt64.ofInt n).toNat)) ?_
   have h:=run _ _ hs.1
   have e:IntKind.u64.wrap n=((UInt64.ofInt n).toNat:Int):=by
     rw [wrap_u64,ofInt64]
   rw [e]at h;exact h
  ·rw [Den]at hs;exact .of (by rw [Den]) (run _ _ hs.1)
  ·rename_i n;rw [Den]at hs;have h:=run _ _ hs;have:=lt8 n;rw [wrap_id (by unfold InR;omega)]at h
   exact .of (den_i (by unfold InR;omega)) h
  ·rename_i n;rw [Den]at hs;have h:=run _ _ hs;have:=lt8 n;rw [wrap_u8,show((n.toNat:Int) % 256)=n.toNat by omega]at h
   exact .of (by rw [Den]) h
  ·rename_i n;rw [Den]at hs;have h:=run _ _ hs;have:=lt8 n
   have e:IntKind.u64.wrap n.toNat=((UInt64.ofNat n.toNat).toNat:Int):=by
     rw [wrap_u64,UInt64.toNat_ofNat'];omega
   rw [e]at h;exact .of (by rw [Den]) h
  ·rename_i n;rw [Den]at hs;exact .of (den_w _) (run _ _ hs)
  ·rename_i n;rw [Den]at hs;have h:=run _ _ hs
   have e:IntKind.u8.wrap n.toNat=((UInt8.ofNat n.toNat).toNat:Int):=by
     rw [wrap_u8,UInt8.toNat_ofNat'];omega
   rw [e]at h;exact .of (by rw [Den]) h
  ·rename_i n;rw [Den]at hs;have h:=run _ _ hs;have:=lt64 n;rw [wrap_u64,show((n.toNat:Int) % 18446744073709551616)=n.toNat by omega]at h
   exact .of (by rw [Den]) h
  ·rename_i n;cases den_v hs;exact .of (den_w _) (run _ _ rfl)
  ·exact True.intro
 ·rename_i hS hT;have hu:E.P.underlying S=some .string:=kn_of hS;have hv:E.P.underlying T=some .string:=kn_of hT;split
  ·rw [Den]at hs;obtain⟨rfl,h⟩:=hs;refine .of (by rw [Den];exact⟨rfl,h⟩) fun w=>?_
   simp [execOp,e1,Go.convert,run_underlying hu,run_underlying hv,silUpon]
  ·exact True.intro
 ·exact True.intro
theorem unE_ok {op:UnOp} {T:TypeId} {x:Operand} {s:SV} {u:Value} (hx:XK.ev (envA a) x=some u) (hs:Den m ids s u):PRok (unE op s) (PureV E m ids a ⟨d,.unOp op T x,ty,pos,af,g⟩):=by
 have e1:=(okx_envA a).ev hx;unfold unE;split
 ·rw [Den]at hs;subst hs;exact .of (den_b _) (sl_of (Sil.not hx))
 ·rw [Den]at hs;obtain⟨rfl,h⟩:=hs;refine⟨h,.of (den_w _) fun w=>?_⟩
  simp [execOp,e1,Op.unary,Op.intArith,silUpon]
 ·rename_i n;rw [Den]at hs;subst hs;refine .of (v:=.int .u64 (~~~n).toNat) (by rw [Den]) fun w=>?_
  have:=lt64 n
  have h2:BitVec.ofInt 64 18446744073709551615 ^^^ BitVec.ofInt 64 (n.toNat:Int)=(~~~n).toBitVec:=by
    rw [bv64,UInt64.toBitVec_not,show BitVec.ofInt 64 18446744073709551615=BitVec.allOnes 64 by decide,BitVec.xor_comm,BitVec.xor_allOnes]
  have h3:IntKind.u64.wrap (BitVec.ofInt 64 18446744073709551615 ^^^ BitVec.ofInt 64 (n.toNat:Int)).toNat=((~~~n).toNat:Int):=by
    rw [h2,wrap_u64];change ((~~~n).toNat:Int) % 18446744073709551616=_;have:=lt64 (~~~n);omega
  have hrun:(Op.unary .xor (.int .u64 n.toNat)).run E.P w=.ok (.int .u64 (IntKind.u64.wrap (BitVec.ofInt 64 18446744073709551615 ^^^ BitVec.ofInt 64 (n.toNat:Int)).toNat)) w:=by
    have hm:IntKind.u64.max=18446744073709551615:=by decide
    unfold Op.unary Op.intBits;simp only [IntKind.signed,hm,Bool.false_eq_true,if_false];rfl
  simp only [execOp,e1,Sem.run_bind,hrun,Result.andThen_ok,Sem.run_pure,h3];exact⟨rfl,rfl⟩
 ·exact True.intro
theorem one_one {s:SV} {v:Value} (h:one s=true) (hs:Den m ids s v):v.oneCell'=true:=by
 cases s<;>simp only [one]at h<;>try (cases h;done)
 case v x =>
   cases den_v hs;cases v<;>simp only at h<;>first|(cases h;done)|rfl
 case osl i =>
   rw [Den]at hs;exact hs.2
 all_goals rw [Den]at hs
 case i=>obtain⟨rfl,_⟩:=hs;rfl
 case b=>subst hs;rfl
 case w8=>subst hs;rfl
 case w32=>subst hs;rfl
 case w64=>subst hs;rfl
 case str=>obtain⟨rfl,_⟩:=hs;rfl
 case loc=>obtain⟨_,_,rfl⟩:=hs;rfl
 case nso=>exact hs.elim fun _ h=>h.2
 case noe=>obtain⟨_,_,_,_,_,_,_,_,rfl⟩:=hs;rfl
 case sub=>obtain⟨_,_,_,_,_,_,_,_,_,_,rfl⟩:=hs;rfl
 case oel=>obtain⟨_,_,_,_,_,_,_,rfl⟩:=hs;rfl
 case vel=>obtain⟨_,_,_,_,rfl⟩:=hs;rfl
 case vsl=>obtain⟨_,_,_,_,_,_,rfl⟩:=hs;rfl
 case lst=>obtain⟨_,_,rfl,_⟩:=hs.shape;rfl
 case fp=>obtain⟨_,_,_,rfl,_⟩:=hs;rfl
 case fvec=>obtain⟨_,_,_,rfl,_⟩:=hs;rfl
 case fsl=>obtain⟨_,_,_,rfl,_⟩:=hs;rfl
 case clo=>obtain⟨_,_,rfl,_⟩:=hs;rfl
 case ifc=>obtain⟨_,rfl,_⟩:=hs;rfl
theorem one_cells {s:SV} {v:Value} (h:one s=true) (hs:Den m ids s v):v.cells = #[v]:=by
 have:=one_one h hs;cases v<;>simp only [Value.oneCell']at this<;>first|(cases this;done)|rfl
theorem svs_den:∀ (l:List Value),DenL m ids (svs l) l
 |[]=>by rw [svs,DenL]
 |v::r=>by rw [svs,DenL];exact⟨v,r,rfl,constSV_den v,svs_den r⟩
theorem cellsOf_ok {s:SV} {v:Value} (h:allOne (cellsOf s)=true) (hs:Den m ids s v):DenL m ids (cellsOf s) v.cells.toList:=by
 unfold cellsOf at h ⊢;split
 ·rw [Den]at hs;obtain⟨us,rfl,h1⟩:=hs;simpa [Value.cells] using h1
 ·cases den_v hs;simpa [Value.cells] using svs_den _
 ·have h1:one s=true:=by
    simp only [allOne]at h;split at h
    ·assumption
    ·cases h
  rw [one_cells h1 hs,DenL];exact⟨v,[],rfl,hs,by rw [DenL]⟩
def overV:List Value→Nat→List Value→List Value
 |us,o,vs=>us.take o++vs++us.drop (o+vs.length)
theorem over_den:∀ {cs:List SV} {us:List Value} {o:Nat} {ns:List SV} {vs:List Value},DenL m ids cs us→DenL m ids ns vs→o+ns.length≤cs.length→DenL m ids (over cs o ns) (overV us o vs)
 |cs,us,o,[],vs,h,hn,_=>by
   have e:vs=[]:=hn.nil;subst e;have:over cs o []=cs:=by cases cs<;>rfl
   rw [this];simpa [overV] using h
 |[],_,_,_::_,_,_,_,hl=>by simp at hl
 |c::cs,us,0,n::ns,vs,h,hn,hl=>by
   rw [DenL]at h hn;obtain⟨u,us',rfl,_,h3⟩:=h;obtain⟨v,vs',rfl,h5,h6⟩:=hn;have ih:=over_den (o:=0) h3 h6 (by simp at hl ⊢;omega)
   rw [over,DenL];refine⟨v,_,?_,h5,ih⟩;simp [overV]
 |c::cs,us,o+1,n::ns,vs,h,hn,hl=>by
   rw [DenL]at h;obtain⟨u,us',rfl,h2,h3⟩:=h;have ih:=over_den (o:=o) h3 hn (by simp at hl ⊢;omega)
   rw [over,DenL];refine⟨u,_,?_,h2,ih⟩;simp [overV,Nat.add_right_comm]
theorem fold_over (off:Nat):∀ (vs:List Value) (k:Nat) (cells:Array Value),off+k+vs.length≤cells.size →
   ((vs.zipIdx k).foldl (fun cs (x:Value×Nat)=>cs.setIfInBounds (off+x.2) x.1) cells).toList=overV cells.toList (off+k) vs
 |[],k,cells,_=>by simp [overV]
 |v::r,k,cells,h=>by
   rw [List.zipIdx_cons,List.foldl_cons,fold_over off r (k+1) _ (by simp at h ⊢;omega)]
   have hlt:off+k<cells.toList.length:=by simp at h ⊢;omega
   simp only [overV,Array.toList_setIfInBounds];rw [List.set_eq_take_append_cons_drop,if_pos hlt];have hk:(cells.toList.take (off+k)).length=off+k:=by simp at hlt ⊢;omega
   have e1:(cells.toList.take (off+k)++v::cells.toList.drop (off+k+1)).take (off+(k+1))=cells.toList.take (off+k)++[v]:=by
     rw [List.take_append,List.take_of_length_le (by omega),hk,show off+(k+1)-(off+k)=1 by omega,List.take_succ_cons,List.take_zero]
   have e2:(cells.toList.take (off+k)++v::cells.toList.drop (off+k+1)).drop (off+(k+1)+r.length)=cells.toList.drop (off+k+(r.length+1)):=by
     rw [List.drop_append,List.drop_eq_nil_of_le (by omega),List.nil_append,hk,show off+(k+1)+r.length-(off+k)=r.length+1 by omega,List.drop_succ_cons,List.drop_drop]
     congr 1
     omega
   rw [e1,e2];simp
theorem fill_step {place:Nat→Option (Nat×Nat)} {cells:Array Value} {i:Nat} {v:Value} {rest:List (Nat×Value)} {o k:Nat} (hp:place i=some (o,k)) (hs:v.cells.size=k) (hl:o+k≤cells.size) :
   ∃ cells':Array Value,Instr.fill place cells ((i,v)::rest)=Instr.fill place cells' rest∧cells'.toList=overV cells.toList o v.cells.toList:=by
 refine⟨v.cells.zipIdx.foldl (fun cs (c,j)=>cs.setIfInBounds (o+j) c) cells,?_,?_⟩
 ·rw [Instr.fill,hp];simp only;rw [if_neg (by simp [hs];omega)]
 ·have:=fold_over o v.cells.toList 0 cells (by simp;omega)
  rw [← Array.foldl_toList,Array.toList_zipIdx];simpa using this
theorem partsE_ok {fs:List (Nat×TypeId)} {place:Nat→Option (Nat×Nat)} (hpl:∀ f o T k,nth fs f=some (o,T)→sizeE E T=some k→place f=some (o,k)) :
   ∀ {ps:List (Nat×SV)} {vs:List (Nat×Value)} {cs cs':List SV} {cells:Array Value},partsE E fs ps cs=some cs'→DenN m ids ps vs→DenL m ids cs cells.toList→∃ cells',Instr.fill place cells vs=some cells'∧DenL m ids cs' cells'.toList
 |[],vs,cs,cs',cells,h,hv,hc=>by
   simp only [partsE,Option.some.injEq]at h;subst h;rw [DenN]at hv;subst hv;exact⟨cells,rfl,hc⟩
 |(f,s)::r,vs,cs,cs',cells,h,hv,hc=>by
   obtain⟨v,vs',rfl,h1,h2⟩:=hv;simp only [partsE]at h;split at h
   ·rename_i o T hf;split at h
    ·rename_i k hk;split at h
     ·rename_i q1 q2 q3;have q1:=Nat.eq_of_beq_eq_true q1;have q2:=Nat.le_of_ble_eq_true q2;rw [len_eq]at q1 q2;have hd:=cellsOf_ok q3 h1
      have hsz:v.cells.size=k:=by
        have:=hd.length;simp at this;omega
      have hcs:cells.size=cs.length:=by
        have:=hc.length;simpa using this
      obtain⟨cells1,h3,h4⟩:=fill_step (cells:=cells) (rest:=vs') (hpl f o T k hf hk) hsz (by omega)
      have hd2:=over_den (o:=o) (ns:=cellsOf s) hc hd (by omega)
      rw [← h4]at hd2;obtain⟨cells2,h5,h6⟩:=partsE_ok hpl h h2 hd2;exact⟨cells2,by rw [h3];exact h5,h6⟩
     ·cases h
    ·cases h
   ·cases h
theorem partsA_ok {k:Nat} {place:Nat→Option (Nat×Nat)} (hpl:∀ f,place f=some (f*k,k)) :
   ∀ {ps:List (Nat×SV)} {vs:List (Nat×Value)} {cs cs':List SV} {cells:Array Value},partsA k ps cs=some cs'→DenN m ids ps vs→DenL m ids cs cells.toList→∃ cells',Instr.fill place cells vs=some cells'∧DenL m ids cs' cells'.toList
 |[],vs,cs,cs',cells,h,hv,hc=>by
   simp only [partsA,Option.some.injEq]at h;subst h;rw [DenN]at hv;subst hv;exact⟨cells,rfl,hc⟩
 |(f,s)::r,vs,cs,cs',cells,h,hv,hc=>by
   obtain⟨v,vs',rfl,h1,h2⟩:=hv;simp only [partsA]at h;split at h
   ·rename_i q1 q2 q3;have q1:=Nat.eq_of_beq_eq_true q1;have q2:=Nat.le_of_ble_eq_true q2;rw [len_eq]at q1 q2;have hd:=cellsOf_ok q3 h1
    have hsz:v.cells.size=k:=by
      have:=hd.length;simp at this;omega
    have hcs:cells.size=cs.length:=by
      have:=hc.length;simpa using this
    obtain⟨cells1,h3,h4⟩:=fill_step (cells:=cells) (rest:=vs') (hpl f) hsz (by omega)
    have hd2:=over_den (o:=f*k) (ns:=cellsOf s) hc hd (by omega)
    rw [← h4]at hd2;obtain⟨cells2,h5,h6⟩:=partsA_ok hpl h h2 hd2;exact⟨cells2,by rw [h3];exact h5,h6⟩
   ·cases h
theorem mapM_places {P:Program}:∀ (F:List Field),(F.all fun(f:Field)=>(P.info? f.type).isSome)=true→∃ places:List (Nat×Nat),F.mapM (fun(f:Field)=>(P.info? f.type).map fun i=>(f.offset,i.size))=some places ∧
   ∀ (j:Nat) (f:Field),F[j]?=some f→∀ i,P.info? f.type=some i→places[j]?=some (f.offset,i.size)
 |[],_=>⟨[],rfl,fun _ _ h=>by simp at h⟩
 |f::r,h=>by
   simp only [List.all_cons,Bool.and_eq_true]at h;obtain⟨places,h1,h2⟩:=mapM_places r h.2
   cases hi:P.info? f.type with
   |none=>rw [hi]at h;cases h.1
   |some i =>
     refine⟨(f.offset,i.size)::places,by simp [List.mapM_cons,hi,h1],fun j f' hj i' hi'=>?_⟩
     cases j with
     |zero=>simp at hj;subst hj;rw [hi]at hi';cases hi';rfl
     |succ j=>simp at hj ⊢;exact h2 j f' hj i' hi'
theorem buildE_ok {T:TypeId} {parts:Array (Nat×Operand)} {ps:List (Nat×SV)} {vs:List (Nat×Value)} (hv:XK.pevs (envA a) parts.toList=some vs) (hd:DenN m ids ps vs) :
   PRok (buildE E T ps) (PureV E m ids a ⟨d,.build T parts,ty,pos,af,g⟩):=by
 unfold buildE;split
 ·rename_i fs _ _ _ z _ hT;obtain⟨F,h1,rfl,h2⟩:=kn_of hT;have hi:=inf_of' hT;simp only at hi;split
  ·rename_i cs hp;obtain⟨places,h3,h4⟩:=mapM_places F.toList h2
   have hpl:∀ f o T k,nth (F.toList.map fun f=>(f.offset,f.type)) f=some (o,T)→sizeE E T=some k→places.toArray[f]?=some (o,k):=by
     intro f o T' k hf hk;rw [nth_eq,List.getElem?_map,Option.map_eq_some_iff]at hf;obtain⟨fd,h5,h6⟩:=hf;rw [Prod.mk.injEq]at h6;obtain⟨z',b',h7⟩:=sizeE_spec hk;obtain⟨inf,h8,_,h9,_⟩:=h7.ex;rw [← h6.2]at h8;have:=h4 f fd h5 inf h8;rw [h6.1,h9]at this;simpa using this
   obtain⟨cells,h5,h6⟩:=partsE_ok hpl (cells:=z.cells) hp hd (svs_den _);obtain⟨inf,h7,h8,_⟩:=hi.ex;refine .of (v:=.agg cells) (by rw [Den];exact⟨cells.toList,by simp,h6⟩) (sl_of (Sil.build hv ?_))
   unfold Program.built;simp only [h7,h8,h1,h3];exact h5
  ·exact True.intro
 ·rename_i n e _ _ _ z _ hT;have h1:E.P.underlying T=some (.array n e):=kn_of hT;have hi:=inf_of' hT;simp only at hi;split
  ·rename_i k hk;split
   ·rename_i cs hp;obtain⟨z',b',h2⟩:=sizeE_spec hk;obtain⟨inf',h3,_,h4,_⟩:=h2.ex;obtain⟨cells,h5,h6⟩:=partsA_ok (place:=fun i=>some (i*k,k)) (fun _=>rfl) (cells:=z.cells) hp hd (svs_den _)
    obtain⟨inf,h7,h8,_⟩:=hi.ex;refine .of (v:=.agg cells) (by rw [Den];exact⟨cells.toList,by simp,h6⟩) (sl_of (Sil.build hv ?_))
    unfold Program.built;simp only [h7,h8,h1,h3,h4];exact h5
   ·exact True.intro
  ·exact True.intro
 ·exact True.intro
theorem mergeB_ok {q:Bool} {s t:SV} {kx ky:Operand} {u v:Value} (hs:q=true→Den m ids s u) (ht:q=false→Den m ids t v) (hx:∀ p,kx=.const (.bool p)→s=.b p) (hy:∀ p,ky=.const (.bool p)→t=.b p) :
   PRok (mergeB q s t kx ky) (fun r=>Den m ids r (bif q then u else v)):=by
 unfold mergeB;split
 ·split
  ·cases hy false rfl;cases q
   ·exact ht rfl
   ·exact hs rfl
  ·cases hx true rfl;cases q
   ·exact ht rfl
   ·exact hs rfl
  ·cases q
   ·exact ht rfl
   ·exact hs rfl
 ·cases q
  ·exact ht rfl
  ·exact hs rfl
 ·cases q
  ·exact ht rfl
  ·exact hs rfl
 ·exact True.intro
end
end Go.SX
