/- A part of the proof (texts Ms, Word2, Slc, Img, Cmp, B1, B34, B5, B17, B61, B9, B18, B73). -/
import Derived.Ground.NamesProg
import Derived.Shelf.Lay
import Derived.Shelf.Small.Strs
import Derived.Test.YtobpljbkdffkbaaGreatP12
import Derived.Test.YtobpljbkdffkbaaGreatP14
import Derived.Test.YtobpljbkdffkbaaGreatP15
set_option linter.all false
set_option maxRecDepth 100000
namespace Go.SX
open Go.XK Go.RowKit
theorem me_ {P:Prop} (h:P:=by refine bc_ fun g_=>?_;(conv at g_=>(arg 1;whnf));refine g_ ?_;clear g_;repeat' (first|((with_reducible apply And.intro)<;>(first|(with_reducible refine leS_q ?_;apply rfl)|(with_reducible refine leH_rf ?_;apply rfl)|(refine bc_ fun g_=>?_;(conv at g_=>(arg 1;whnf));refine g_ ?_;clear g_)))|(with_reducible apply trivial)|apply rfl|apply(Or.inl rfl)|apply(Or.inr rfl)|apply(Or.inr (Or.inl rfl))|apply trivial|(apply And.intro<;>(refine bc_ fun g_=>?_;(conv at g_=>(arg 1;whnf));refine g_ ?_;clear g_)))):P:=h
theorem rm_ {P:Prop} (h:P:=by(try dsimp only);first|omega|(simp only [List.length_take,List.length_drop];omega)):P:=h
theorem rn_ {a b c:Prop} (h2:b) (h3:c) (h1:a):Rnd a b c:=⟨h1,h2,h3⟩
theorem mt_ {a b:Prop} (h2:b) (h1:a):Met a b:=⟨h1,h2⟩
theorem ob0_ {p q:Prop} (h:p) (k:q):Ob p∧q:=⟨⟨h⟩,k⟩
theorem obc_ {P:Prop} (h:P:=by first|omega|assumption|(dsimp only;omega)|(simp only [Int.toNat_natCast];exact⟨by omega,by omega⟩)|(intro hq;simp only [bs]at hq;omega)|(unfold rngOK;omega)|(unfold rngOK;intro hq;simp only [bs]at hq;omega)):P:=h
theorem wr0_ {n:Int} {K:Int→Prop} (h:InR n) (k:K n):∃ x,IntKind.i64.wrap n=x∧K x:=⟨n,wrap_id h,k⟩
theorem wrc_ {P:Prop} (h:P:=by(try simp only [Int.toNat_natCast]);exact⟨by omega,by omega⟩):P:=h
theorem wg0_ {q:Prop} {n:Int} {K:Int→Prop} (h:q→InR n) (k:K n):∃ x,(q→IntKind.i64.wrap n=x)∧K x:=⟨n,fun a=>wrap_id (h a),k⟩
theorem wgc_ {P:Prop} (k:P:=by intro hq;(try simp only [Int.toNat_natCast]);simp only [bs]at hq;first|exact⟨by omega,by omega⟩|(have hz:=h hq;exact⟨by omega,by omega⟩)):P:=k
theorem cH_ {E:En} {σ:St} {d:Option Tmp} {f:FuncId} {args:List SV} {K:St→Prop} {q:Prop} (h:callH E σ d f args K):callH E σ d f args K∨q:=Or.inl h
theorem uR_ {v:St→(Exit→St→Prop)→Prop} {σ:St} {K:Exit→St→Prop} {p q:Prop} (h:∃ n,unr v n σ K):p∨(∃ n,unr v n σ K)∨q:=Or.inr (Or.inl h)
theorem jR_ {a b:St→(Exit→St→Prop)→Prop} {σ:St} {K:Exit→St→Prop} {p q:Prop} (h:joinS a b σ K):p∨joinS a b σ K∨q:=Or.inr (Or.inl h)
theorem cl_ {P:Prop} (h:P:=by(repeat (first|exact rfl|refine eq_ct (by assumption) ?_|refine eq_cf (by assumption) ?_|refine eq_it (by first|assumption|omega) ?_|refine eq_ie (by first|assumption|omega) ?_));done):P:=h
theorem nc1_ {P:Prop} (h:false=true):P:=Bool.noConfusion h
theorem nc2_ {P:Prop} (h:true=false):P:=Bool.noConfusion h
theorem nc3_ {a:Bool} {P:Prop} (h:a=false) (k:a=true:=by assumption):P:=Bool.noConfusion (k.symm.trans h)
theorem nc4_ {a:Bool} {P:Prop} (h:a=true) (k:a=false:=by assumption):P:=Bool.noConfusion (k.symm.trans h)
theorem fa_ (h:False):False:=h
end Go.SX
namespace Go.SX
open Go.XK Go.RowKit
def wDown (n t:Int):Int:=if t<1∨1099511627776<t∨n < -1152921504606846976∨1152921504606846976<n then n else n-(if n.tmod t<0 then n.tmod t+t else n.tmod t)
theorem tmod_b (n t:Int) (h:1≤t):-t<n.tmod t∧n.tmod t<t:=by
 have h1:=Int.tmod_lt_of_pos n (b:=t) (by omega)
 have h2:=Int.lt_tmod_of_pos n (b:=t) (by omega)
 omega
@[reducible] def a186:List SV→PR
 |[.i n,.i t]=>.ok (.i (wDown n t))
 |_=>.no
theorem o186:FOK 92 a186:=by
 intro args m ids vs hG hm hv;unfold a186;split
 ·rename_i n t;refine calls_fact (DB:=[]) (IL:=[]) (WL:=[]) (fn:=Proofs.Tryz.f92) rfl rfl rfl rfl rfl rfl (fun hk=>?_) m ids vs hG hm hv
  clear hG hm hv;have ht:=tmod_b n t
  repeat' (refine bc_ fun g_=>?_;(conv at g_=>(arg 1;whnf));refine g_ ?_;clear g_;first|((fail_if_success (apply cH_));(fail_if_success (apply uR_));apply Or.inl)|(apply rn_;exact rm_;exact me_)|(apply mt_;exact me_)|(apply ob0_;first|exact obc_)|(apply And.intro<;>(intro h;have hc:=h;try simp only [bs]at h))|(intro h;(try (unfold und at h;conv at h=>whnf));try simp only [bs]at h)|(apply wr0_;exact wrc_)|(apply wg0_;exact wgc_))
  all_goals (conv=>whnf)
  ·rw [wDown,if_pos (by omega)]
  ·rw [wDown,if_neg (by omega),if_pos (by omega)]
  ·rw [wDown,if_neg (by omega),if_neg (by omega)]
 ·trivial
def F186:Fact E0:=⟨92,a186,by unfold FnOK;kernel_rfl,o186⟩
theorem wDown_b (n t:Int):wDown n t≠n→1≤t∧t≤1099511627776∧-1152921504606846976≤n∧n≤1152921504606846976∧n-t<wDown n t∧wDown n t≤n:=by
 intro h;unfold wDown at h ⊢;have ht:=tmod_b n t;split at h
 ·exact absurd rfl h
 ·rename_i hc;rw [if_neg hc];split<;>omega
def wUp (n t:Int):Int:=if wDown n t≠n then wDown n t+t else n
@[reducible] def a82:List SV→PR
 |[.i n,.i t]=>.ok (.i (wUp n t))
 |_=>.no
theorem o82:FOK 40 a82:=by
 intro args m ids vs hG hm hv;unfold a82;split
 ·rename_i n t;refine calls_fact (DB:=[F186]) (IL:=[]) (WL:=[]) (fn:=Proofs.Tryz.f40) rfl rfl rfl rfl rfl rfl (fun hk=>?_) m ids vs hG hm hv
  clear hG hm hv;have ht:=wDown_b n t
  repeat' (refine bc_ fun g_=>?_;(conv at g_=>(arg 1;whnf));refine g_ ?_;clear g_;first|((fail_if_success (apply cH_));(fail_if_success (apply uR_));apply Or.inl)|(apply rn_;exact rm_;exact me_)|(apply mt_;exact me_)|(apply ob0_;first|exact obc_)|(apply And.intro<;>(intro h;have hc:=h;try simp only [bs]at h))|(intro h;(try (unfold und at h;conv at h=>whnf));try simp only [bs]at h)|(apply wr0_;exact wrc_)|(apply wg0_;exact wgc_))
  all_goals (conv=>whnf)
  all_goals simp_all [wUp]
 ·trivial
def F82:Fact E0:=⟨40,a82,by unfold FnOK;kernel_rfl,o82⟩
end Go.SX
namespace Go.SX
open Go.XK Go.RowKit
def idxF (p:Nat→Bool) (n:Nat):Nat→Int
 |0=>-1
 |r+1=>if p (n-(r+1))then((n-(r+1):Nat):Int)else idxF p n r
def idx (p:Nat→Bool) (n:Nat):Int:=idxF p n n
def eqI (a b:Int):Bool:=decide (a=b)
theorem eqI_t {a b:Int} (h:a=b):eqI a b=true:=decide_eq_true h
theorem eqI_f {a b:Int} (h:¬ a=b):eqI a b=false:=decide_eq_false h
def idxI (l:List Int) (x:Int):Int:=idx (fun k=>eqI x (gt 0 l k)) l.length
@[reducible] def a51:List SV→PR
 |[.lst _ 0 l,.i x]=>.ok (.b (decide (0≤idxI l x)))
 |_=>.no
end Go.SX
namespace Go.SX
open Go.XK Go.RowKit
@[reducible] def a83:List SV→PR
 |[.i a,.i b,.i c]=>.ok (.b (decide (b≤a)&&decide (a≤c)))
 |_=>.no
theorem o83:FOK 41 a83:=by
 intro args m ids vs hG hm hv;unfold a83;split
 ·refine calls_fact (DB:=[]) (IL:=[]) (WL:=[]) (fn:=Proofs.Tryz.f41) rfl rfl rfl rfl rfl rfl (fun hk=>?_) m ids vs hG hm hv
  clear hG hm hv
  repeat' (refine bc_ fun g_=>?_;(conv at g_=>(arg 1;whnf));refine g_ ?_;clear g_;first|((fail_if_success (apply cH_));(fail_if_success (apply uR_));apply Or.inl)|(apply rn_;exact rm_;exact me_)|(apply mt_;exact me_)|(apply ob0_;first|exact obc_)|(apply And.intro<;>(intro h;have hc:=h;try simp only [bs]at h))|(intro h;(try (unfold und at h;conv at h=>whnf));try simp only [bs]at h)|(apply wr0_;exact wrc_)|(apply wg0_;exact wgc_))
  all_goals (conv=>whnf)
  all_goals rfl
 ·trivial
def F83:Fact E0:=⟨41,a83,by unfold FnOK;kernel_rfl,o83⟩
@[reducible] def a88:List SV→PR
 |[.i a]=>.ok (.b (decide (a=0)||decide (a=1)||decide (a=2)))
 |_=>.no
theorem o88:FOK 46 a88:=by
 intro args m ids vs hG hm hv;unfold a88;split
 ·refine calls_fact (DB:=[]) (IL:=[]) (WL:=[]) (fn:=Proofs.Tryz.f46) rfl rfl rfl rfl rfl rfl (fun hk=>?_) m ids vs hG hm hv
  clear hG hm hv
  repeat' (refine bc_ fun g_=>?_;(conv at g_=>(arg 1;whnf));refine g_ ?_;clear g_;first|((fail_if_success (apply cH_));(fail_if_success (apply uR_));apply Or.inl)|(apply rn_;exact rm_;exact me_)|(apply mt_;exact me_)|(apply ob0_;first|exact obc_)|(apply And.intro<;>(intro h;have hc:=h;try simp only [bs]at h))|(intro h;(try (unfold und at h;conv at h=>whnf));try simp only [bs]at h)|(apply wr0_;exact wrc_)|(apply wg0_;exact wgc_))
  all_goals (conv=>whnf)
  all_goals rfl
 ·trivial
def F88:Fact E0:=⟨46,a88,by unfold FnOK;kernel_rfl,o88⟩
def p81 (n:Int):Bool:=decide (wUp n 256=n)
@[reducible] def b81:List SV→PR
 |[.i _,.i n]=>.ok (.b (p81 n))
 |_=>.no
theorem o81:FOK 39 b81:=by
 intro args m ids vs hG hm hv;unfold b81;split
 ·refine calls_fact (DB:=[F82]) (IL:=[]) (WL:=[]) (fn:=Proofs.Tryz.f39) rfl rfl rfl rfl rfl rfl (fun hk=>?_) m ids vs hG hm hv
  clear hG hm hv
  repeat' (refine bc_ fun g_=>?_;(conv at g_=>(arg 1;whnf));refine g_ ?_;clear g_;first|((fail_if_success (apply cH_));(fail_if_success (apply uR_));apply Or.inl)|(apply rn_;exact rm_;exact me_)|(apply mt_;exact me_)|(apply ob0_;first|exact obc_)|(apply And.intro<;>(intro h;have hc:=h;try simp only [bs]at h))|(intro h;(try (unfold und at h;conv at h=>whnf));try simp only [bs]at h)|(apply wr0_;exact wrc_)|(apply wg0_;exact wgc_))
  all_goals (conv=>whnf)
  all_goals rfl
 ·trivial
def F81:Fact E0:=⟨39,b81,by unfold FnOK;kernel_rfl,o81⟩
@[reducible] def a80:List SV→PR
 |[.lst _ 0 l,.clo 39 [] []]=>.ok (.b ((List.range l.length).all fun k=>p81 (gt 0 l k)))
 |_=>.no
theorem o80:FOK 38 a80:=by
 intro args m ids vs hG hm hv;unfold a80;split
 ·rename_i z l;refine calls_fact (DB:=[F81]) (IL:=[]) (WL:=[]) (fn:=Proofs.Tryz.f38) rfl rfl rfl rfl rfl rfl (fun hk=>?_) m ids vs hG hm hv
  clear hG hm hv;simp only [know]at hk
  repeat' (refine bc_ fun g_=>?_;(conv at g_=>(arg 1;whnf));refine g_ ?_;clear g_;first|((fail_if_success (apply cH_));(fail_if_success (apply uR_));apply Or.inl)|(apply rn_;exact rm_;exact me_)|(apply mt_;exact me_)|(apply ob0_;first|exact obc_)|(apply And.intro<;>(intro h;have hc:=h;try simp only [bs]at h))|(intro h;(try (unfold und at h;conv at h=>whnf));try simp only [bs]at h)|(apply wr0_;exact wrc_)|(apply wg0_;exact wgc_))
  all_goals (conv=>whnf)
  refine Or.inl ⟨Nat,0,[],[0,1,7,8],fun k=>[(9,.i k)],fun _=>[],[],fun k=>k≤l.length∧∀ j,j<k→p81 (gt 0 l j)=true,fun k=>l.length-k,0,⟨Nat.zero_le _,fun j hj=>absurd hj (Nat.not_lt_zero _)⟩,?_,fun k ⟨hkl,hok⟩=>?_⟩
  ·repeat' (
            conv=>whnf
            first|exact trivial|exact rfl|exact Or.inl rfl|exact Or.inr rfl|exact Or.inr (Or.inl rfl)|refine And.intro ?_ ?_)
   all_goals (conv=>whnf)
  ·repeat' (refine bc_ fun g_=>?_;(conv at g_=>(arg 1;whnf));refine g_ ?_;clear g_;first|((fail_if_success (apply cH_));(fail_if_success (apply uR_));apply Or.inl)|(apply rn_;exact rm_;exact me_)|(apply mt_;exact me_)|(apply ob0_;first|exact obc_)|(apply And.intro<;>(intro h;have hc:=h;try simp only [bs]at h))|(intro h;(try (unfold und at h;conv at h=>whnf));try simp only [bs]at h)|(apply wr0_;exact wrc_)|(apply wg0_;exact wgc_))
   all_goals (conv=>whnf)
   ·symm;exact List.all_eq_false.2 ⟨k,List.mem_range.2 (by omega),by rw [h];decide⟩
   ·refine⟨k+1,⟨by omega,fun j hj=>?_⟩,by show l.length-(k+1)<l.length-k;omega,?_⟩
    ·rcases Nat.lt_succ_iff_lt_or_eq.1 hj with hj|rfl
     ·exact hok j hj
     ·assumption
    ·repeat' (
              conv=>whnf
              first|exact trivial|exact rfl|exact Or.inl rfl|exact Or.inr rfl|exact Or.inr (Or.inl rfl)|refine And.intro ?_ ?_)
     all_goals (conv=>whnf)
   ·have e:k=l.length:=by omega
    subst e;symm;exact List.all_eq_true.2 fun j hj=>hok j (List.mem_range.1 hj)
 ·trivial
def F80:Fact E0:=⟨38,a80,by unfold FnOK;kernel_rfl,o80⟩
end Go.SX
namespace Go.SX
open Go.XK Go.RowKit
@[reducible] def a244:List SV→PR
 |[.i _]=>.ok (.b false)
 |_=>.no
theorem o244:FOK 119 a244:=by
 intro args m ids vs hG hm hv;unfold a244;split
 ·refine calls_fact (DB:=[]) (IL:=[]) (WL:=[]) (fn:=Proofs.Tryz.f119) rfl rfl rfl rfl rfl rfl (fun hk=>?_) m ids vs hG hm hv
  clear hG hm hv
  repeat' (refine bc_ fun g_=>?_;(conv at g_=>(arg 1;whnf));refine g_ ?_;clear g_;first|((fail_if_success (apply cH_));(fail_if_success (apply uR_));apply Or.inl)|(apply rn_;exact rm_;exact me_)|(apply mt_;exact me_)|(apply ob0_;first|exact obc_)|(apply And.intro<;>(intro h;have hc:=h;try simp only [bs]at h))|(intro h;(try (unfold und at h;conv at h=>whnf));try simp only [bs]at h)|(apply wr0_;exact wrc_)|(apply wg0_;exact wgc_))
  all_goals (conv=>whnf)
  all_goals simp
 ·trivial
def F244:Fact E0:=⟨119,a244,by unfold FnOK;kernel_rfl,o244⟩
@[reducible] def a193:List SV→PR
 |[.str _]=>.ok (.b false)
 |_=>.no
theorem o193:FOK 100 a193:=by
 intro args m ids vs hG hm hv;unfold a193;split
 ·refine calls_fact (DB:=[]) (IL:=[]) (WL:=[]) (fn:=Proofs.Tryz.f100) rfl rfl rfl rfl rfl rfl (fun hk=>?_) m ids vs hG hm hv
  clear hG hm hv
  repeat' (refine bc_ fun g_=>?_;(conv at g_=>(arg 1;whnf));refine g_ ?_;clear g_;first|((fail_if_success (apply cH_));(fail_if_success (apply uR_));apply Or.inl)|(apply rn_;exact rm_;exact me_)|(apply mt_;exact me_)|(apply ob0_;first|exact obc_)|(apply And.intro<;>(intro h;have hc:=h;try simp only [bs]at h))|(intro h;(try (unfold und at h;conv at h=>whnf));try simp only [bs]at h)|(apply wr0_;exact wrc_)|(apply wg0_;exact wgc_))
  all_goals (conv=>whnf)
  all_goals simp
 ·trivial
def F193:Fact E0:=⟨100,a193,by unfold FnOK;kernel_rfl,o193⟩
def cmpI (a b:Int):Int:=if a<b then -1 else if b<a then 1 else 0
@[reducible] def a166:List SV→PR
 |[.i a,.i b]=>.ok (.i (cmpI a b))
 |_=>.no
theorem o166:FOK 98 a166:=by
 intro args m ids vs hG hm hv;unfold a166;split
 ·refine calls_fact (DB:=[F244]) (IL:=[]) (WL:=[]) (fn:=Proofs.Tryz.f98) rfl rfl rfl rfl rfl rfl (fun hk=>?_) m ids vs hG hm hv
  clear hG hm hv
  repeat' (refine bc_ fun g_=>?_;(conv at g_=>(arg 1;whnf));refine g_ ?_;clear g_;first|((fail_if_success (apply cH_));(fail_if_success (apply uR_));apply Or.inl)|(apply rn_;exact rm_;exact me_)|(apply mt_;exact me_)|(apply ob0_;first|exact obc_)|(apply And.intro<;>(intro h;have hc:=h;try simp only [bs]at h))|(intro h;(try (unfold und at h;conv at h=>whnf));try simp only [bs]at h)|(apply wr0_;exact wrc_)|(apply wg0_;exact wgc_))
  all_goals (conv=>whnf)
  all_goals first|(exfalso;simp at *;done)|skip
  all_goals (unfold cmpI;split<;>(try split)<;>first|rfl|omega|(simp_all;done))
 ·trivial
def F166:Fact E0:=⟨98,a166,by unfold FnOK;kernel_rfl,o166⟩
def cmpS (a b:ByteArray):Int:=if sless a b then -1 else if !(sless a b||decide (a=b))then 1 else 0
@[reducible] def a94:List SV→PR
 |[.str a,.str b]=>.ok (.i (cmpS a b))
 |_=>.no
theorem o94:FOK 52 a94:=by
 intro args m ids vs hG hm hv;unfold a94;split
 ·refine calls_fact (DB:=[F193]) (IL:=[]) (WL:=[]) (fn:=Proofs.Tryz.f52) rfl rfl rfl rfl rfl rfl (fun hk=>?_) m ids vs hG hm hv
  clear hG hm hv
  repeat' (refine bc_ fun g_=>?_;(conv at g_=>(arg 1;whnf));refine g_ ?_;clear g_;first|((fail_if_success (apply cH_));(fail_if_success (apply uR_));apply Or.inl)|(apply rn_;exact rm_;exact me_)|(apply mt_;exact me_)|(apply ob0_;first|exact obc_)|(apply And.intro<;>(intro h;have hc:=h;try simp only [bs]at h))|(intro h;(try (unfold und at h;conv at h=>whnf));try simp only [bs]at h)|(apply wr0_;exact wrc_)|(apply wg0_;exact wgc_))
  all_goals (conv=>whnf)
  all_goals first|(exfalso;simp at *;done)|skip
  all_goals (unfold cmpS;split<;>(try split)<;>first|rfl|omega|(simp_all;done))
 ·trivial
def F94:Fact E0:=⟨52,a94,by unfold FnOK;kernel_rfl,o94⟩
def orF (l:List (TabT 0)):Nat→Int
 |0=>0
 |r+1=>bif eqI (gt 0 l (l.length-(r+1))) 0 then orF l r else gt 0 l (l.length-(r+1))
theorem orF_s (l:List (TabT 0)) (r:Nat):orF l (r+1)=bif eqI (gt 0 l (l.length-(r+1))) 0 then orF l r else gt 0 l (l.length-(r+1)):=rfl
def cOr (l:List (TabT 0)):Int:=orF l l.length
@[reducible] def a93:List SV→PR
 |[.lst _ 0 l]=>.ok (.i (cOr l))
 |_=>.no
theorem o93:FOK 51 a93:=by
 intro args m ids vs hG hm hv;unfold a93;split
 ·rename_i z l;refine calls_fact (DB:=[]) (IL:=[]) (WL:=[]) (fn:=Proofs.Tryz.f51) rfl rfl rfl rfl rfl rfl (fun hk=>?_) m ids vs hG hm hv
  clear hG hm hv;simp only [know]at hk
  repeat' (refine bc_ fun g_=>?_;(conv at g_=>(arg 1;whnf));refine g_ ?_;clear g_;first|((fail_if_success (apply cH_));(fail_if_success (apply uR_));apply Or.inl)|(apply rn_;exact rm_;exact me_)|(apply mt_;exact me_)|(apply ob0_;first|exact obc_)|(apply And.intro<;>(intro h;have hc:=h;try simp only [bs]at h))|(intro h;(try (unfold und at h;conv at h=>whnf));try simp only [bs]at h)|(apply wr0_;exact wrc_)|(apply wg0_;exact wgc_))
  all_goals (conv=>whnf)
  refine Or.inl ⟨Nat,0,[],[0,3,6,7],fun k=>[(8,.i k)],fun _=>[],[],fun k=>k≤l.length∧cOr l=orF l (l.length-k),fun k=>l.length-k,0,⟨Nat.zero_le _,rfl⟩,?_,fun k ⟨hkl,hok⟩=>?_⟩
  ·repeat' (
            conv=>whnf
            first|exact trivial|exact rfl|exact Or.inl rfl|exact Or.inr rfl|exact Or.inr (Or.inl rfl)|refine And.intro ?_ ?_)
   all_goals (conv=>whnf)
  ·repeat' (refine bc_ fun g_=>?_;(conv at g_=>(arg 1;whnf));refine g_ ?_;clear g_;first|((fail_if_success (apply cH_));(fail_if_success (apply uR_));apply Or.inl)|(apply rn_;exact rm_;exact me_)|(apply mt_;exact me_)|(apply ob0_;first|exact obc_)|(apply And.intro<;>(intro h;have hc:=h;try simp only [bs]at h))|(intro h;(try (unfold und at h;conv at h=>whnf));try simp only [bs]at h)|(apply wr0_;exact wrc_)|(apply wg0_;exact wgc_))
   all_goals (conv=>whnf)
   ·have hl:l.length-k=(l.length-(k+1))+1:=by omega
    have hi:l.length-(l.length-(k+1)+1)=k:=by omega
    rw [hok,hl,orF_s l,hi,eqI_f h];rfl
   ·have hl:l.length-k=(l.length-(k+1))+1:=by omega
    have hi:l.length-(l.length-(k+1)+1)=k:=by omega
    refine⟨k+1,⟨by omega,?_⟩,by show l.length-(k+1)<l.length-k;omega,?_⟩
    ·rw [hok,hl,orF_s l,hi,eqI_t (a:=gt 0 l k) (b:=0) (by assumption)]
     rfl
    ·repeat' (
              conv=>whnf
              first|exact trivial|exact rfl|exact Or.inl rfl|exact Or.inr rfl|exact Or.inr (Or.inl rfl)|refine And.intro ?_ ?_)
     all_goals (conv=>whnf)
   ·have e:k=l.length:=by omega
    subst e;rw [hok,Nat.sub_self];rfl
 ·trivial
def F93:Fact E0:=⟨51,a93,by unfold FnOK;kernel_rfl,o93⟩
end Go.SX
namespace Go.SX
open Go.XK Go.RowKit
abbrev F_AA:Fact E0:=F166
abbrev F_AB:Fact E0:=F94
abbrev F_AC:Fact E0:=F93
abbrev F_AX:Fact E0:=F83
abbrev F_An:Fact E0:=F88
abbrev F_AT:Fact E0:=F80
def lp {σ ρ:Type} (b:Nat→σ→(σ→ρ)→ρ) (fin:σ→ρ):Nat→Nat→σ→ρ
 |0,_,s=>fin s
 |r+1,k,s=>b k s (lp b fin r (k+1))
theorem lp_lt {σ ρ:Type} {b:Nat→σ→(σ→ρ)→ρ} {fin:σ→ρ} {n k:Nat} {s:σ} (h:k<n):lp b fin (n-k) k s=b k s (lp b fin (n-(k+1)) (k+1)):=by
 have e:n-k=(n-(k+1))+1:=by omega
 rw [e,lp]
theorem lp_z {σ ρ:Type} {b:Nat→σ→(σ→ρ)→ρ} {fin:σ→ρ} {n k:Nat} {s:σ} (h:n≤k):lp b fin (n-k) k s=fin s:=by
 have e:n-k=0:=by omega
 rw [e,lp]
def imWidth (k:Int):Int:=if k=1∨k=2 then 4 else 8
@[reducible] def a_Co:List SV→PR
 |[.i k]=>.ok (.i (imWidth k))
 |_=>.no
theorem o_EC:FOK 56 a_Co:=by
 intro args m ids vs hG hm hv;unfold a_Co;split
 ·rename_i k;refine calls_fact (DB:=[]) (IL:=[]) (WL:=[]) (fn:=Proofs.Tryz.f56) rfl rfl rfl rfl rfl rfl (fun hk=>?_) m ids vs hG hm hv
  clear hG hm hv
  repeat' (refine bc_ fun g_=>?_;(conv at g_=>(arg 1;whnf));refine g_ ?_;clear g_;first|((fail_if_success (apply cH_));(fail_if_success (apply uR_));apply Or.inl)|(apply rn_;exact rm_;exact me_)|(apply mt_;exact me_)|(apply ob0_;first|exact obc_)|(apply And.intro<;>(intro h;have hc:=h;try simp only [bs]at h))|(intro h;(try (unfold und at h;conv at h=>whnf));try simp only [bs]at h)|(apply wr0_;exact wrc_)|(apply wg0_;exact wgc_))
  all_goals (conv=>whnf)
  all_goals (unfold imWidth;split<;>first|rfl|omega)
 ·trivial
noncomputable def F_BC:Fact E0:=⟨56,a_Co,by unfold FnOK;kernel_rfl,o_EC⟩
end Go.SX
namespace Go.SX
open Go.XK Go.RowKit
abbrev Rows:=List (List Int)
def isr (l:List Int):List Int:=isort l
def icp (l:List Int):List Int:=icomp l
def rowA (o:Rows) (v:Nat):List Int:=o.getD v []
def arcA (arcs:List TArc) (k:Nat):TArc:=gt 39 arcs k
def nxA (n:Int) (arcs:List TArc):Nat→Rows
 |0=>List.replicate n.toNat []
 |k+1=>(nxA n arcs k).set (arcA arcs k).From.toNat (rowA (nxA n arcs k) (arcA arcs k).From.toNat++[(arcA arcs k).To])
def nxI (o:Rows) (v:Nat):Rows:=(o.set v (isr (rowA o v))).set v (icp (rowA (o.set v (isr (rowA o v))) v))
def nxB (o:Rows):Nat→Rows
 |0=>o
 |k+1=>nxI (nxB o k) k
def nextS (n:Int) (arcs:List TArc):Rows:=nxB (nxA n arcs arcs.length) n.toNat
def arcOk (n:Int) (a:TArc):Prop:=0≤a.From∧a.From<n∧0≤a.To∧a.To<n
def gOk (n:Int) (arcs:List TArc):Prop:=0≤n∧n≤262144∧∀ k,k<arcs.length→arcOk n (arcA arcs k)
theorem nxA_l (n:Int) (arcs:List TArc):∀ k,(nxA n arcs k).length=n.toNat
 |0=>List.length_replicate ..
 |k+1=>(List.length_set ..).trans (nxA_l n arcs k)
theorem nxB_l (o:Rows):∀ k,(nxB o k).length=o.length
 |0=>rfl
 |k+1=>((List.length_set ..).trans (List.length_set ..)).trans (nxB_l o k)
theorem rowA_set {o:Rows} {v w:Nat} {l:List Int}:rowA (o.set v l) w=if v=w∧v<o.length then l else rowA o w:=by
 unfold rowA;rw [List.getD_eq_getElem?_getD,List.getD_eq_getElem?_getD,List.getElem?_set]
 by_cases e:v=w
 ·subst e
  by_cases h:v<o.length
  ·rw [if_pos rfl,if_pos h,if_pos ⟨rfl,h⟩];rfl
  ·rw [if_pos rfl,if_neg h,if_neg (fun q=>h q.2),List.getElem?_eq_none (by omega)]
 ·rw [if_neg e,if_neg (fun q=>e q.1)]
theorem nxA_row (n:Int) (arcs:List TArc):∀ k w,(rowA (nxA n arcs k) w).length≤k
 |0,w=>by
   unfold rowA nxA;rw [List.getD_eq_getElem?_getD,List.getElem?_replicate];split<;>exact Nat.le_refl _
 |k+1,w=>by
   rw [nxA,rowA_set];split
   ·rw [List.length_append];exact Nat.succ_le_succ (nxA_row n arcs k _)
   ·exact Nat.le_succ_of_le (nxA_row n arcs k w)
theorem nxI_eq {o:Rows} {v:Nat} (h:v<o.length):nxI o v=o.set v (icp (isr (rowA o v))):=by
 unfold nxI;rw [List.set_set,rowA_set,if_pos ⟨rfl,h⟩]
set_option maxHeartbeats 4000000 in
@[reducible] def a_Bw:List SV→PR
 |[.i n,.lst z 39 arcs]=>.ob (gOk n arcs) (.lst none 12 (nextS n arcs))
 |_=>.no
set_option maxHeartbeats 4000000 in
theorem o_DK:FOK 138 a_Bw:=by
 intro args m ids vs hG hm hv;unfold a_Bw;split
 ·rename_i n z arcs;intro hb;have hl0:=nxA_l n arcs;refine calls_fact (DB:=[]) (IL:=[]) (WL:=[]) (fn:=Proofs.Tryz.f138) rfl rfl rfl rfl rfl rfl (fun hk=>?_) m ids vs hG hm hv
  clear hG hm hv;simp only [know]at hk;have hb1:=hb.1;have hb2:=hb.2.1;have hq:arcs.length*16≤140737488355328:=hk.2.1.1
  repeat' (refine bc_ fun g_=>?_;(conv at g_=>(arg 1;whnf));refine g_ ?_;clear g_;first|((fail_if_success (fail_if_success (apply Or.inl)));first|refine Or.inr (Or.inl (Exists.intro [1,1,0,1,1,0,1,0,1,0,2,3,1,3] (Exists.intro (.take 0 (.take 1 (.take 3 (.take 4 (.take 8 (.take 5 (.take 6 (.take 7 (.take 9 (.two 2 (.one 10 (.one 11 (.take 12 (.one 13 .done)))) 10 (.two 2 (.one 11 (.take 12 (.one 13 .done))) 11 (.take 2 (.take 12 (.one 13 .done)))))))))))))) (And.intro (by decide +kernel) ?_)))))|((fail_if_success (apply cH_));(fail_if_success (apply uR_));apply Or.inl)|(apply rn_;exact rm_;exact me_)|(apply mt_;exact me_)|(apply ob0_;first|exact obc_|(refine⟨hb1,rfl,?_⟩<;>show n*24≤_<;>omega))|((fail_if_success (fail_if_success (apply And.intro)));first|(apply And.intro<;>(intro h;have hc:=h;try simp only [bs]at h))|refine And.intro (by kernel_rfl) ?_|(refine And.intro ?_ ?_;fail_if_success (refine Ob.mk ?_)))|(intro h;(try (unfold und at h;conv at h=>whnf));try simp only [bs]at h)|(apply wr0_;exact wrc_)|(apply wg0_;exact wgc_))
  all_goals (conv=>whnf)
  refine Or.inr (Or.inr ⟨[(5,1,0)],[13],[],[0],[5,11,12],[],?_⟩);conv=>whnf
  refine⟨fun(s:Int×Unit) (t:List (TabT 12)×Unit)=>0≤s.1∧s.1≤arcs.length∧t.1=nxA n arcs s.1.toNat,fun(s:Int×Unit) _=>(arcs.length-s.1).toNat,?_⟩
  conv=>whnf
  refine Ini.mk ⟨by(try dsimp only);omega,by(try dsimp only);omega,rfl⟩ me_ ?_
  rintro⟨(k:Int),_⟩ ⟨(t:List (TabT 12)),_⟩ ⟨h0,h1,hS⟩
  try dsimp only at h0 h1 hS
  obtain⟨k,rfl⟩:=Int.eq_ofNat_of_zero_le h0;rw [Int.toNat_natCast]at hS;subst hS;have hrow:∀ v,List.length (α:=TabT 0) (gt 12 (nxA n arcs k) v)≤k:=nxA_row n arcs k;have hlen:List.length (α:=TabT 12) (nxA n arcs k)=n.toNat:=hl0 k
  have hA:k<arcs.length→0≤(gt 39 arcs ((k:Int)).toNat).From∧(gt 39 arcs ((k:Int)).toNat).From<((List.length (α:=TabT 12) (nxA n arcs k):Nat):Int):=fun hk=>by
    obtain⟨a1,a2,_,_⟩:=hb.2.2 k hk;refine⟨a1,?_⟩;rw [hlen];show(arcA arcs k).From<_;omega
  have hB:k<arcs.length→(List.length (α:=TabT 0) (gt 12 (nxA n arcs k) (gt 39 arcs ((k:Int)).toNat).From.toNat)+1)*8≤140737488355328:=fun hk=>by
    have hr:=hrow (gt 39 arcs ((k:Int)).toNat).From.toNat;omega
  clear hrow
  repeat' (refine bc_ fun g_=>?_;(conv at g_=>(arg 1;whnf));refine g_ ?_;clear g_;first|((fail_if_success (fail_if_success (apply Or.inl)));first|refine Or.inr (Or.inl (Exists.intro [1,1,0,1,1,0,1,3,1,0,2,3,1,3] (Exists.intro (.take 0 (.take 1 (.take 3 (.take 4 (.take 8 (.take 5 (.take 6 (.three 2 (.two 7 (.take 9 (.one 10 (.one 11 (.take 12 (.one 13 .done))))) 9 (.two 7 (.one 10 (.one 11 (.take 12 (.one 13 .done)))) 10 (.one 7 (.one 11 (.take 12 (.one 13 .done)))))) 7 (.take 9 (.two 2 (.one 10 (.one 11 (.take 12 (.one 13 .done)))) 10 (.two 2 (.one 11 (.take 12 (.one 13 .done))) 11 (.take 2 (.take 12 (.one 13 .done)))))) 9 (.three 2 (.two 7 (.one 10 (.one 11 (.take 12 (.one 13 .done)))) 10 (.one 7 (.one 11 (.take 12 (.one 13 .done))))) 7 (.two 2 (.one 10 (.one 11 (.take 12 (.one 13 .done)))) 10 (.two 2 (.one 11 (.take 12 (.one 13 .done))) 11 (.take 2 (.take 12 (.one 13 .done))))) 10 (.two 2 (.one 7 (.one 11 (.take 12 (.one 13 .done)))) 7 (.two 2 (.one 11 (.take 12 (.one 13 .done))) 11 (.take 2 (.take 12 (.one 13 .done)))))))))))))) (And.intro (by decide +kernel) ?_)))))|((fail_if_success (apply cH_));(fail_if_success (apply uR_));apply Or.inl)|(apply rn_;exact rm_;exact me_)|(apply mt_;exact me_)|(apply ob0_;first|(exact hA (by omega))|(exact hB (by omega))|exact obc_)|((fail_if_success (fail_if_success (apply And.intro)));first|(apply And.intro<;>(intro h;have hc:=h;try simp only [bs]at h))|refine And.intro (by kernel_rfl) ?_|(refine And.intro ?_ ?_;fail_if_success (refine Ob.mk ?_)))|(intro h;(try (unfold und at h;conv at h=>whnf));try simp only [bs]at h)|(apply wr0_;exact wrc_)|(apply wg0_;exact wgc_))
  all_goals (conv=>whnf)
  all_goals first
   |(show(0:Int)≤(k:Int)+1;omega)
   |(show(k:Int)+1≤arcs.length;omega)
   |(show _=nxA n arcs (k+1);rfl)
   |skip
  have ek:k=arcs.length:=by omega
  subst ek;have hl1:=nxB_l (nxA n arcs arcs.length);have hlq:∀ v,List.length (α:=TabT 12) (nxB (nxA n arcs arcs.length) v)=n.toNat:=fun v=>(hl1 v).trans (hl0 arcs.length)
  refine Or.inr (Or.inr ⟨[(5,1,0)],[33],[],[0],[5,32],[],?_⟩);conv=>whnf
  refine⟨fun(s:Int×Unit) (t:List (TabT 12)×Unit)=>0≤s.1∧s.1≤(List.length (α:=TabT 12) (nxA n arcs arcs.length):Nat)∧t.1=nxB (nxA n arcs arcs.length) s.1.toNat,fun(s:Int×Unit) _=>((List.length (α:=TabT 12) (nxA n arcs arcs.length):Nat)-s.1).toNat,?_⟩
  conv=>whnf
  refine Ini.mk ⟨by(try dsimp only);omega,by(try dsimp only);omega,rfl⟩ me_ ?_
  rintro⟨(j:Int),_⟩ ⟨(t:List (TabT 12)),_⟩ ⟨g0,g1,gS⟩
  try dsimp only at g0 g1 gS
  obtain⟨j,rfl⟩:=Int.eq_ofNat_of_zero_le g0;rw [Int.toNat_natCast]at gS;subst gS;have hlj:=hlq j;have hls:∀ x:List (TabT 0),List.length (α:=TabT 12) (List.set (α:=TabT 12) (nxB (nxA n arcs arcs.length) j) j x)=n.toNat:=fun x=>(@List.length_set (TabT 12) (nxB (nxA n arcs arcs.length) j) j x).trans hlj
  repeat' (refine bc_ fun g_=>?_;(conv at g_=>(arg 1;whnf));refine g_ ?_;clear g_;first|((fail_if_success (fail_if_success (apply Or.inl)));refine Or.inl ⟨_,_,_,_,[1],hc_sort _ _,rfl,rfl,rfl,rfl,rfl,(And.intro rfl trivial),?_⟩;(rintro _ _ _ ⟨rfl,rfl,rfl⟩;refine And.intro rfl (And.intro rfl ?_)))|((fail_if_success (fail_if_success (apply Or.inl)));refine Or.inl ⟨_,_,_,_,[2],hc_compact _ _,rfl,rfl,rfl,rfl,rfl,(And.intro rfl trivial),?_⟩;(rintro _ _ _ ⟨rfl,rfl,rfl⟩;refine And.intro rfl (And.intro rfl ?_)))|((fail_if_success (fail_if_success (apply Or.inl)));first|refine Or.inr (Or.inl (Exists.intro [1,1,0,1,1,0,1,0,1,0,2,3,1,3] (Exists.intro (.take 0 (.take 1 (.take 3 (.take 4 (.take 8 (.take 5 (.take 6 (.take 7 (.take 9 (.two 2 (.one 10 (.one 11 (.take 12 (.one 13 .done)))) 10 (.two 2 (.one 11 (.take 12 (.one 13 .done))) 11 (.take 2 (.take 12 (.one 13 .done)))))))))))))) (And.intro (by decide +kernel) ?_)))))|((fail_if_success (apply cH_));(fail_if_success (apply uR_));apply Or.inl)|(apply rn_;exact rm_;exact me_)|(apply mt_;exact me_)|(apply ob0_;first|exact obc_|(refine⟨g0,?_⟩<;>rw [hlj]<;>omega)|(refine⟨g0,?_⟩<;>(show(j:Int)<((List.length (α:=TabT 12) (List.set (α:=TabT 12) (nxB (nxA n arcs arcs.length) j) j _):Nat):Int))<;>rw [hls]<;>omega))|((fail_if_success (fail_if_success (apply And.intro)));first|(apply And.intro<;>(intro h;have hc:=h;try simp only [bs]at h))|refine And.intro (by kernel_rfl) ?_|(refine And.intro ?_ ?_;fail_if_success (refine Ob.mk ?_)))|(intro h;(try (unfold und at h;conv at h=>whnf));try simp only [bs]at h)|(apply wr0_;exact wrc_)|(apply wg0_;exact wgc_))
  all_goals (conv=>whnf)
  all_goals first
   |(show(0:Int)≤(j:Int)+1;omega)
   |(show(j:Int)+1≤_;omega)
   |(show _=nxB (nxA n arcs arcs.length) (j+1);rfl)
   |skip
  ·have ej:j=n.toNat:=by have:=hl0 arcs.length;omega
   subst ej;rfl
 ·trivial
noncomputable def F_AH:Fact E0:=Fact.co [.un,.lst none 39 []] ⟨138,a_Bw,by unfold FnOK;kernel_rfl,o_DK⟩
end Go.SX
namespace Go.SX
open Go.XK Go.RowKit
def dstB (kc:Nat) (f:Nat→TabT kc) (k:Nat) (m:List (TabT kc×TabT 2)) (next:List (TabT kc×TabT 2)→Bool):Bool:=bif (mgetT m (f k)).getD false then false else next (mputT m (f k) true)
def dstF (kc:Nat) (_:List (TabT kc×TabT 2)):Bool:=true
def dst (kc:Nat) (f:Nat→TabT kc) (n:Nat):Bool:=lp (dstB kc f) (dstF kc) n 0 []
end Go.SX
namespace Go.SX
open Go.XK Go.RowKit
theorem any_t {p:Nat→Bool} {n k:Nat} (hk:k<n) (h:p k=true):(List.range n).any p=true:=List.any_eq_true.2 ⟨k,List.mem_range.2 hk,h⟩
theorem any_f {p:Nat→Bool} {n:Nat} (h:∀ j,j<n→p j=false):(List.range n).any p=false:=List.any_eq_false.2 fun j hj=>by rw [h j (List.mem_range.1 hj)];decide
end Go.SX
namespace Go.SX
open Go.XK Go.RowKit
abbrev vb (l:List (TabT 3)) (k:Nat):UInt8:=gt 3 l k
def vnB (s:ByteArray) (k:Nat) (_:Unit) (next:Unit→Bool):Bool:=bif decide (vb s.data.toList k<UInt8.ofNat 33)||decide (UInt8.ofNat 126<vb s.data.toList k)then false else next ()
def vnF (s:ByteArray) (_:Unit):Bool:=decide ((1:Int)≤s.size)&&decide ((s.size:Int)≤64)
def vName (s:ByteArray):Bool:=lp (vnB s) (vnF s) (List.length (α:=TabT 3) s.data.toList) 0 ()
@[reducible] def a_DF:List SV→PR
 |[.str w]=>.ob ((w.size:Int)≤140737488355328) (.b (vName w))
 |_=>.no
theorem o_ES:FOK 102 a_DF:=by
 intro args m ids vs hG hm hv;unfold a_DF;split
 ·rename_i w;intro hb;refine calls_fact (DB:=[]) (IL:=[]) (WL:=[]) (fn:=Proofs.Tryz.f102) rfl rfl rfl rfl rfl rfl (fun hk=>?_) m ids vs hG hm hv
  clear hG hm hv;simp only [know]at hk
  repeat' (refine bc_ fun g_=>?_;(conv at g_=>(arg 1;whnf));refine g_ ?_;clear g_;first|((fail_if_success (apply cH_));(fail_if_success (apply uR_));apply Or.inl)|(apply rn_;exact rm_;exact me_)|(apply mt_;exact me_)|(apply ob0_;first|exact obc_)|(apply And.intro<;>(intro h;have hc:=h;try simp only [bs]at h))|(intro h;(try (unfold und at h;conv at h=>whnf));try simp only [bs]at h)|(apply wr0_;exact wrc_)|(apply wg0_;exact wgc_))
  all_goals (conv=>whnf)
  refine Or.inr (Or.inr ⟨[],[8,15,16],[],[],[0,6,7,23,24,25],[],?_⟩);conv=>whnf
  refine⟨fun(s:Int×Unit) (t:Unit)=>0≤s.1∧s.1≤List.length (α:=TabT 3) w.data.toList∧vName w=lp (vnB w) (vnF w) (List.length (α:=TabT 3) w.data.toList-s.1.toNat) s.1.toNat (()),fun(s:Int×Unit) (_:Unit)=>(List.length (α:=TabT 3) w.data.toList-s.1).toNat,?_⟩
  conv=>whnf
  refine Ini.mk ⟨by(try dsimp only);omega,by(try dsimp only);omega,rfl⟩ me_ ?_
  rintro⟨(k:Int),_⟩ _ ⟨h0,h1,hS⟩
  try dsimp only at h0 h1 hS
  obtain⟨k,rfl⟩:=Int.eq_ofNat_of_zero_le (show(0:Int)≤k by omega)
  rw [Int.toNat_natCast]at hS
  repeat' (refine bc_ fun g_=>?_;(conv at g_=>(arg 1;whnf));refine g_ ?_;clear g_;first|((fail_if_success (apply cH_));(fail_if_success (apply uR_));apply Or.inl)|(apply rn_;exact rm_;exact me_)|(apply mt_;exact me_)|(apply ob0_;first|exact obc_)|(apply And.intro<;>(intro h;have hc:=h;try simp only [bs]at h))|(intro h;(try (unfold und at h;conv at h=>whnf));try simp only [bs]at h)|(apply wr0_;exact wrc_)|(apply wg0_;exact wgc_))
  all_goals (conv=>whnf)
  all_goals first
   |((try dsimp only);refine⟨by omega,by omega,hS.trans ((lp_lt (by omega)).trans ?_)⟩;rw [show((k:Int)+1).toNat=k+1 by omega];symm;unfold vnB;(try dsimp only);all_goals exact cl_)
   |((try dsimp only);refine Eq.trans ?_ (hS.trans (lp_lt (by omega))).symm;unfold vnB;(try dsimp only);all_goals exact cl_)
   |((try dsimp only);refine Eq.trans ?_ (hS.trans (lp_z (by omega))).symm;unfold vnF;(try dsimp only);all_goals exact cl_)
 ·trivial
noncomputable def F_BT:Fact E0:=⟨102,a_DF,by unfold FnOK;kernel_rfl,o_ES⟩
end Go.SX
namespace Go.SX
open Go.XK Go.RowKit
theorem ntr {b:Bool} (h:(!b)=true):b=false:=by cases b<;>simp_all
theorem nfl {b:Bool} (h:(!b)=false):b=true:=by cases b<;>simp_all
def prB (P:Nat→Bool) (k:Nat) (_:Unit) (next:Unit→Bool):Bool:=bif !P k then false else next ()
def prF (_:Unit):Bool:=true
def prs (P:Nat→Bool) (n:Nat):Bool:=lp (prB P) prF (n-1) 1 ()
end Go.SX
namespace Go.SX
open Go.XK Go.RowKit
abbrev gI (l:List (TabT 0)) (k:Nat):Int:=gt 0 l k
end Go.SX
namespace Go.SX
open Go.XK Go.RowKit
section
variable {α:Type} {p:α→Bool}
structure DlP (p:α→Bool) (l u:List α) (i j:Nat):Prop where
 len:u.length=l.length
 lt:i<j
 le:j≤l.length
 front:u.take i=(l.take j).filter p
 back:u.drop j=l.drop j
theorem DlP.get {l u:List α} {i j:Nat} (h:DlP p l u i j) {x:α} (hx:u[j]?=some x):l[j]?=some x:=by
 have e:(u.drop j)[0]?=(l.drop j)[0]?:=by rw [h.back]
 rw [List.getElem?_drop,List.getElem?_drop,Nat.add_zero]at e;rw [← e];exact hx
theorem take_one {l:List α} {j:Nat} {x:α} (hx:l[j]?=some x):l.take (j+1)=l.take j++[x]:=by
 rw [List.take_add_one,hx];rfl
theorem DlP.start {l:List α} {i:Nat} {x:α} (hx:l[i]?=some x) (hp:p x=false) (ha:∀ j y,j<i→l[j]?=some y→p y=true):DlP p l l i (i+1):=by
 have hi:i<l.length:=(List.getElem?_eq_some_iff.1 hx).1;refine⟨rfl,Nat.lt_succ_self _,hi,?_,rfl⟩;rw [take_one hx,List.filter_append,List.filter_cons_of_neg (by simp [hp]),List.filter_nil,List.append_nil]
 symm;rw [List.filter_eq_self];intro y hy;obtain⟨j,hj⟩:=List.mem_iff_getElem?.1 hy;rw [List.getElem?_take]at hj;split at hj
 ·rename_i h;exact ha j y h hj
 ·cases hj
theorem DlP.keep {l u:List α} {i j:Nat} (h:DlP p l u i j) {x:α} (hx:u[j]?=some x) (hp:p x=true):DlP p l (u.set i x) (i+1) (j+1):=by
 have hl:=h.get hx;have hj:j<l.length:=(List.getElem?_eq_some_iff.1 hl).1;have hlt:=h.lt;refine⟨by rw [List.length_set,h.len],by omega,hj,?_,?_⟩
 ·rw [take_one hl,List.filter_append,← h.front,List.filter_cons_of_pos hp,List.filter_nil,take_one (x:=x) (by rw [List.getElem?_set_self (by rw [h.len];omega)])]
  rw [List.take_set_of_le (Nat.le_refl _)]
 ·rw [List.drop_set_of_lt (by omega),← List.drop_drop,h.back,List.drop_drop]
theorem DlP.skip {l u:List α} {i j:Nat} (h:DlP p l u i j) {x:α} (hx:u[j]?=some x) (hp:p x=false):DlP p l u i (j+1):=by
 have hl:=h.get hx;have hj:j<l.length:=(List.getElem?_eq_some_iff.1 hl).1;have hlt:=h.lt;refine⟨h.len,by omega,hj,?_,?_⟩
 ·rw [take_one hl,List.filter_append,← h.front,List.filter_cons_of_neg (by simp [hp]),List.filter_nil,List.append_nil]
 ·rw [← List.drop_drop,h.back,List.drop_drop]
theorem DlP.all {l:List α} (ha:∀ (j:Nat) (y:α),l[j]?=some y→p y=true):l.filter p=l:=by
 rw [List.filter_eq_self];intro y hy;obtain⟨j,hj⟩:=List.mem_iff_getElem?.1 hy;exact ha j y hj
theorem cpy_len {l r:List α} {lo hi:Nat} (h1:lo≤hi) (h2:hi≤l.length):(cpy l lo hi r).length=l.length:=by
 unfold cpy;simp;omega
theorem DlP.fin {l u r:List α} {i j:Nat} (h:DlP p l u i j) (hj:l.length≤j):((cpy u i u.length r).drop 0).take (i-0)=l.filter p:=by
 have e:j=l.length:=Nat.le_antisymm h.le hj;have hf:=h.front;have hlt:=h.lt;have hlen:=h.len;rw [e,List.take_length]at hf;rw [List.drop_zero,Nat.sub_zero,← hf];unfold cpy;rw [List.append_assoc,List.take_append_of_le_length (by rw [List.length_take];omega),List.take_take,Nat.min_self]
end
theorem gt_some {c:Nat} {l:List (TabT c)} {j:Nat} (h:j<l.length):l[j]?=some (gt c l j):=by
 unfold gt;rw [List.getD_eq_getElem?_getD,List.getElem?_eq_getElem h];rfl
def pSp (x:TabT 22):Bool:=!decide ((show TSpan from x).Size≤0)
@[reducible] def a_CK:List SV→PR
 |[.agg [.i xAt,.i xSize]]=>.ok (.b (decide (xSize≤0)))
 |_=>.no
theorem o_DY:FOK 95 a_CK:=by
 intro args m ids vs hG hm hv;unfold a_CK;split
 ·rename_i xAt xSize;refine calls_fact (DB:=[]) (IL:=[]) (WL:=[]) (fn:=Proofs.Tryz.f95) rfl rfl rfl rfl rfl rfl (fun hk=>?_) m ids vs hG hm hv
  clear hG hm hv
  repeat' (refine bc_ fun g_=>?_;(conv at g_=>(arg 1;whnf));refine g_ ?_;clear g_;first|((fail_if_success (apply cH_));(fail_if_success (apply uR_));apply Or.inl)|(apply rn_;exact rm_;exact me_)|(apply mt_;exact me_)|(apply ob0_;first|exact obc_)|(apply And.intro<;>(intro h;have hc:=h;try simp only [bs]at h))|(intro h;(try (unfold und at h;conv at h=>whnf));try simp only [bs]at h)|(apply wr0_;exact wrc_)|(apply wg0_;exact wgc_))
  all_goals (conv=>whnf)
  all_goals rfl
 ·trivial
noncomputable def F_AW:Fact E0:=⟨95,a_CK,by unfold FnOK;kernel_rfl,o_DY⟩
noncomputable def I_IndexFuncD:Inl E0:=Inl.of 87 Proofs.Tryz.f87 rfl rfl (by unfold FnOK;kernel_rfl)
set_option maxHeartbeats 4000000 in
theorem hc_delSp {z:Option Bool} {l:List (TabT 22)} (hl:List.length (α:=TabT 22) l≤140737488355328):HC E0 93 1 [.osl 0,.clo 95 [] []] [(0,.arr 65 z 22 l)] (fun s H n=>s=.osl 1∧H=[(1,.arr 65 none 22 (List.filter (α:=TabT 22) pSp l))]∧n=2):=by
 refine calls_hcS (DB:=[F_AW]) (IL:=[I_IndexFuncD]) (WL:=[]) (fn:=Proofs.Tryz.f93) rfl rfl rfl rfl (by unfold FnOK;kernel_rfl) (fun hk=>?_)
 simp only [know]at hk
 repeat' (refine bc_ fun g_=>?_;(conv at g_=>(arg 1;whnf));refine g_ ?_;clear g_;first|(intro bq;cases bq;rotate_left;(focus (intro hbq;exact absurd (hbq rfl) (by omega)));intro _)|((fail_if_success (apply cH_));(fail_if_success (apply uR_));apply Or.inl)|(apply rn_;exact rm_;exact me_)|(apply mt_;exact me_)|(apply ob0_;first|exact obc_|(exact of_decide_eq_true rfl))|(apply And.intro<;>(intro h;have hc:=h;(try exact nc1_ hc);(try exact nc2_ hc);try simp only [bs]at h))|(intro h;(try (unfold und at h;conv at h=>whnf));try simp only [bs]at h)|(apply wr0_;exact wrc_)|(apply wg0_;exact wgc_))
 all_goals (conv=>whnf)
 refine Or.inr (Or.inr ⟨[],[8],[],[],[0,1,7],[],?_⟩);conv=>whnf
 refine⟨fun(s:Int×Unit) (_:Unit)=>∃ k:Nat,s.1=k∧k≤List.length (α:=TabT 22) l∧∀ (j:Nat) (y:TabT 22),j<k→l[j]?=some y→pSp y=true,fun(s:Int×Unit) _=>((List.length (α:=TabT 22) l:Nat)-s.1).toNat,?_⟩
 conv=>whnf
 refine Ini.mk ⟨0,rfl,Nat.zero_le _,fun j y h=>absurd h (Nat.not_lt_zero _)⟩ me_ ?_
 rintro⟨(k:Int),_⟩ _ ⟨k,hk1,hk2,hA⟩;replace hk1:_=(k:Int):=hk1;subst hk1;replace hk2:k≤List.length (α:=TabT 22) l:=hk2;refine gK fun K hK=>?_
 by_cases hkl:k<List.length (α:=TabT 22) l
 ·have hd:decide ((k:Int)<(List.length (α:=TabT 22) l:Nat))=true:=decide_eq_true (by omega)
  have hn1:decide ((k:Int) = -1)=false:=decide_eq_false (by omega)
  have hgk:l[k]?=some (gt 22 l k):=gt_some hkl
  repeat' ((try refine gKe (by assumption) ?_);refine bc_ fun g_=>?_;(conv at g_=>(arg 1;whnf));refine g_ ?_;clear g_;first|(intro bq;cases bq;rotate_left;(focus (intro hbq;exact absurd (hbq rfl) (by omega)));intro _)|((fail_if_success (apply cH_));(fail_if_success (apply uR_));apply Or.inl)|(apply rn_;exact rm_;exact me_)|(apply mt_;exact me_)|(apply ob0_;first|exact obc_|(exact of_decide_eq_true rfl))|(apply And.intro<;>(intro h;have hc:=h;(try exact nc1_ hc);(try exact nc2_ hc);(try exact nc3_ hc);(try exact nc4_ hc);try simp only [bs]at h))|(intro h;(try (unfold und at h;conv at h=>whnf));try simp only [bs]at h)|(apply wr0_;exact wrc_)|(apply wg0_;exact wgc_)|refine gKe (by assumption) ?_)
  all_goals ((try refine gKe (by assumption) ?_);(conv=>whnf))
  ·have hsz:pSp (gt 22 l k)=false:=by unfold pSp;first|(rw [hc];rfl)|simp_all
   refine Or.inr (Or.inr ⟨[],[5,6],[],[0],[0,1],[],?_⟩);conv=>whnf
   refine⟨fun(s:Int×Int×Unit) (t:List (TabT 22)×Unit)=>∃ i j:Nat,s.1=i∧s.2.1=j∧DlP pSp l t.1 i j,fun(s:Int×Int×Unit) _=>((List.length (α:=TabT 22) l:Nat)-s.2.1).toNat,?_⟩
   conv=>whnf
   refine Ini.mk ⟨k,k+1,rfl,rfl,DlP.start hgk hsz hA⟩ me_ ?_;rintro⟨(i:Int),(j:Int),_⟩ ⟨(u:List (TabT 22)),_⟩ ⟨i,j,hi1,hj1,hD⟩;replace hi1:_=(i:Int):=hi1;replace hj1:_=(j:Int):=hj1;subst hi1;subst hj1;replace hD:DlP pSp l u i j:=hD;have hlen:List.length (α:=TabT 22) u=List.length (α:=TabT 22) l:=hD.len;have hij:i<j:=hD.lt;have hjle:j≤List.length (α:=TabT 22) l:=hD.le;clear hK;refine gK fun K2 hK2=>?_
   by_cases hjl:j<List.length (α:=TabT 22) l
   ·have hd2:decide ((j:Int)<(List.length (α:=TabT 22) u:Nat))=true:=decide_eq_true (by omega)
    have hgj:u[j]?=some (gt 22 u j):=gt_some (by omega)
    repeat' ((try refine gKe (by assumption) ?_);refine bc_ fun g_=>?_;(conv at g_=>(arg 1;whnf));refine g_ ?_;clear g_;first|(intro bq;cases bq;rotate_left;(focus (intro hbq;exact absurd (hbq rfl) (by omega)));intro _)|((fail_if_success (apply cH_));(fail_if_success (apply uR_));apply Or.inl)|(apply rn_;exact rm_;exact me_)|(apply mt_;exact me_)|(apply ob0_;first|exact obc_|(exact of_decide_eq_true rfl))|(apply And.intro<;>(intro h;have hc:=h;(try exact nc1_ hc);(try exact nc2_ hc);(try exact nc3_ hc);(try exact nc4_ hc);try simp only [bs]at h))|(intro h;(try (unfold und at h;conv at h=>whnf));try simp only [bs]at h)|(apply wr0_;exact wrc_)|(apply wg0_;exact wgc_)|refine gKe (by assumption) ?_)
    all_goals ((try refine gKe (by assumption) ?_);(conv=>whnf))
    ·exact⟨i+1,j+1,rfl,rfl,hD.keep hgj (by unfold pSp;simp_all)⟩
    ·exact⟨i,j+1,rfl,rfl,hD.skip hgj (by unfold pSp;simp_all)⟩
   ·have hd2:decide ((j:Int)<(List.length (α:=TabT 22) u:Nat))=false:=decide_eq_false (by omega)
    have hrg:∀ r:List (TabT 22),rngOK 0 (i:Int) ((List.length (α:=TabT 22) (cpy u (i:Int).toNat (List.length (α:=TabT 22) u:Int).toNat r):Nat):Int):=fun r=>by
      have h:=cpy_len (l:=u) (r:=r) (lo:=i) (hi:=List.length (α:=TabT 22) u) (by show i≤List.length (α:=TabT 22) u;omega) (Nat.le_refl _)
      rw [Int.toNat_natCast,Int.toNat_natCast];refine⟨by omega,by omega,?_⟩
      rw [h];show(i:Int)≤(List.length (α:=TabT 22) u:Nat);omega
    repeat' ((try refine gKe (by assumption) ?_);refine bc_ fun g_=>?_;(conv at g_=>(arg 1;whnf));refine g_ ?_;clear g_;first|(intro bq;cases bq;rotate_left;(focus (intro hbq;exact absurd (hbq rfl) (by omega)));intro _)|((fail_if_success (apply cH_));(fail_if_success (apply uR_));apply Or.inl)|(apply rn_;exact rm_;exact me_)|(apply mt_;exact me_)|(apply ob0_;first|(exact hrg _)|exact obc_|(exact of_decide_eq_true rfl))|(apply And.intro<;>(intro h;have hc:=h;(try exact nc1_ hc);(try exact nc2_ hc);(try exact nc3_ hc);(try exact nc4_ hc);try simp only [bs]at h))|(intro h;(try (unfold und at h;conv at h=>whnf));try simp only [bs]at h)|(apply wr0_;exact wrc_)|(apply wg0_;exact wgc_)|refine gKe (by assumption) ?_)
    all_goals ((try refine gKe (by assumption) ?_);(conv=>whnf))
    refine⟨[],[],_,_,[1],⟨rfl,rfl,rfl⟩,?_⟩
    conv=>whnf
    refine bc_ fun g_=>?_;(conv at g_=>(arg 1;whnf));refine g_ ?_;clear g_;repeat' (first|((with_reducible apply And.intro)<;>(first|(with_reducible refine leS_q ?_;apply rfl)|(with_reducible refine leH_rf ?_;apply rfl)|(refine bc_ fun g_=>?_;(conv at g_=>(arg 1;whnf));refine g_ ?_;clear g_)))|(with_reducible apply trivial)|apply rfl|apply(Or.inl rfl)|apply(Or.inr rfl)|apply(Or.inr (Or.inl rfl))|apply trivial|(apply And.intro<;>(refine bc_ fun g_=>?_;(conv at g_=>(arg 1;whnf));refine g_ ?_;clear g_)))
    all_goals (first|exact eqL_of (hD.fin (by show List.length (α:=TabT 22) l≤j;omega))|exact(hD.fin (by show List.length (α:=TabT 22) l≤j;omega)))
  ·exact⟨k+1,rfl,hkl,fun j y hj hy=>by
     rcases Nat.lt_succ_iff_lt_or_eq.1 hj with hj|rfl
     ·exact hA j y hj hy
     ·rw [hgk]at hy;cases hy;unfold pSp;simp_all⟩
 have hd:decide ((k:Int)<(List.length (α:=TabT 22) l:Nat))=false:=decide_eq_false (by omega)
 repeat' ((try refine gKe (by assumption) ?_);refine bc_ fun g_=>?_;(conv at g_=>(arg 1;whnf));refine g_ ?_;clear g_;first|(intro bq;cases bq;rotate_left;(focus (intro hbq;exact absurd (hbq rfl) (by omega)));intro _)|((fail_if_success (apply cH_));(fail_if_success (apply uR_));apply Or.inl)|(apply rn_;exact rm_;exact me_)|(apply mt_;exact me_)|(apply ob0_;first|exact obc_|(exact of_decide_eq_true rfl))|(apply And.intro<;>(intro h;have hc:=h;(try exact nc1_ hc);(try exact nc2_ hc);(try exact nc3_ hc);(try exact nc4_ hc);try simp only [bs]at h))|(intro h;(try (unfold und at h;conv at h=>whnf));try simp only [bs]at h)|(apply wr0_;exact wrc_)|(apply wg0_;exact wgc_)|refine gKe (by assumption) ?_)
 all_goals ((try refine gKe (by assumption) ?_);(conv=>whnf))
 have hal:List.filter (α:=TabT 22) pSp l=l:=DlP.all fun j y hy=>hA j y (by have:=(List.getElem?_eq_some_iff.1 hy).1;have:j<List.length (α:=TabT 22) l:=this;omega) hy
 rw [hal];refine⟨[],[],_,_,[0],⟨rfl,rfl,rfl⟩,?_⟩
 conv=>whnf
 exact me_
end Go.SX
