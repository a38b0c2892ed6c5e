/- A part of the proof (texts Ms, Word, FE, Shs, Room, Reloc, Word2, Slc, Img, Cmp, B1, B2). -/
import Derived.Test.YtpndeclljmdjkaaGreatDoorP08
import Derived.Test.YtpndeclljmdjkaaGreatDoorP09
set_option linter.all false
set_option maxRecDepth 100000
namespace Go.SX
open Go.XK Go.RowKit
noncomputable section
theorem bA {P:Prop} (h:P:=by(refine bc_ fun g_=>?_;(conv at g_=>(arg 1;whnf));refine g_ ?_;clear g_;repeat' (first|((with_reducible apply And.intro)<;>(first|(with_reducible refine iK ?_;apply rfl)|(with_reducible refine eY ?_;apply rfl)|(refine bc_ fun g_=>?_;(conv at g_=>(arg 1;whnf));refine g_ ?_;clear g_)))|(with_reducible apply trivial)|apply rfl|apply(Or.inl rfl)|apply(Or.inr rfl)|apply(Or.inr (Or.inl rfl))|apply trivial|(apply And.intro<;>(refine bc_ fun g_=>?_;(conv at g_=>(arg 1;whnf));refine g_ ?_;clear g_))));all_goals fail):P:=h
theorem F8 {P:Prop} (h:P:=by(try dsimp only);first|omega|(simp only [List.length_take,List.length_drop];omega)):P:=h
theorem F7 {a b c:Prop} (h2:b) (h3:c) (h1:a):KF a b c:=⟨h1,h2,h3⟩
theorem GK {a b:Prop} (h2:b) (h1:a):Met a b:=⟨h1,h2⟩
theorem aP {p q:Prop} (h:p) (k:q):Ob p/\q:=⟨⟨h⟩,k⟩
theorem qO {P:Prop} (h:P:=by first|omega|assumption|(dsimp only;omega)|(simp only [Int.toNat_natCast];exact⟨au,au⟩)|(intro hq;simp only [bs]at hq;omega)|(unfold rP;omega)|(unfold rP;intro hq;simp only [bs]at hq;omega)):P:=h
theorem qB {n:Int} {K:Int->Prop} (h:lC n) (k:K n):∃ x,IntKind.i64.wrap n=x/\K x:=⟨n,kZ h,k⟩
theorem qA {P:Prop} (h:P:=by(try simp only [Int.toNat_natCast]);exact⟨au,au⟩):P:=h
theorem qD {q:Prop} {n:Int} {K:Int->Prop} (h:q->lC n) (k:K n):∃ x,(q->IntKind.i64.wrap n=x)/\K x:=⟨n,fun a=>kZ (h a),k⟩
theorem qC {P:Prop} (k:P:=by intro hq;(try simp only [Int.toNat_natCast]);simp only [bs]at hq;first|exact⟨au,au⟩|(have hz:=h hq;exact⟨au,au⟩)):P:=k
theorem Ih {E:En} {σ:St} {d:Option Tmp} {f:FuncId} {args:List SV} {K:St->Prop} {q:Prop} (h:O1 E σ d f args K):O1 E σ d f args K\/q:=Or.inl h
theorem Fu {v:St->(Exit->St->Prop)->Prop} {σ:St} {K:Exit->St->Prop} {p q:Prop} (h:∃ n,unr v n σ K):p\/(∃ n,unr v n σ K)\/q:=Or.inr (Or.inl h)
theorem jR_ {a b:St->(Exit->St->Prop)->Prop} {σ:St} {K:Exit->St->Prop} {p q:Prop} (h:ZE a b σ K):p\/ZE a b σ K\/q:=Or.inr (Or.inl h)
theorem lI {P:Prop} (h:P:=by(repeat (first|exact rfl|refine gW (by assumption) ?_|refine gB (by assumption) ?_|refine jY (by first|assumption|omega) ?_|refine jZ (by first|assumption|omega) ?_));all_goals fail):P:=h
theorem vM {P:Prop} (h:false=true):P:=Bool.noConfusion h
theorem vL {P:Prop} (h:true=false):P:=Bool.noConfusion h
theorem Vr {a:Bool} {P:Prop} (h:a=false) (k:a=true:=by assumption):P:=Bool.noConfusion (k.symm.trans h)
theorem Vq {a:Bool} {P:Prop} (h:a=true) (k:a=false:=by assumption):P:=Bool.noConfusion (k.symm.trans h)
theorem pc_ {P:Prop} (h:P:=by first|exact .refl _|assumption|exact .trans (by assumption) (by assumption)|exact .trans (by assumption) (.trans (by assumption) (by assumption))|exact .trans (by assumption) (.trans (by assumption) (.trans (by assumption) (by assumption)))):P:=h
theorem fa_ (h:False):False:=h
set_option maxHeartbeats 40000000
def l7 (s:ByteArray) (p z:Int):Bool:=(decide (z=1)||decide (z=2)||decide (z=4)||decide (z=8))&&(decide (0<=p)&&decide (p<=s.size-z))
theorem Fe {s:ByteArray} {p z:Int}:l7 s p z=true↔(z=1\/z=2\/z=4\/z=8)/\0<=p/\p<=s.size-z:=by simp [l7,or_assoc]
def xU (f:FuncId) (app:List SV->PR):Prop:=∀ args (m:Mm) (ids vs:List Value),lU E0.G m->(∀ b,m.S b->b<m.w.heap.size)->aC m ids args vs ->
   iR (app args) fun s=>Calls E0.P f vs.toArray m.w fun e w'=>∃ v S',e=.returned v/\Ext m.w w'/\m.le ⟨w',S'⟩/\(∀ b,S' b->b<w'.heap.size/\(m.S b\/m.w.heap.size<=b))/\Den ⟨w',S'⟩ [] s v
def WOK (f:FuncId) (app:List SV->(SV->Prop)->Prop):Prop:=∀ args (m:Mm) (ids vs:List Value) (K:SV->Prop),lU E0.G m->(∀ b,m.S b->b<m.w.heap.size)->aC m ids args vs->app args K ->
   Calls E0.P f vs.toArray m.w fun e w'=>∃ v S' s,e=.returned v/\K s/\Ext m.w w'/\m.le ⟨w',S'⟩/\(∀ b,S' b->b<w'.heap.size/\(m.S b\/m.w.heap.size<=b))/\Den ⟨w',S'⟩ [] s v
@[reducible] def a79:List SV->PR
 |[.str x,.i y,.i z]=>.ok (.b (l7 x y z))
 |_=>.no
theorem o79:xU 74 a79:=by
 intro args m ids vs hG hm hv;unfold a79;split
 ·rename_i x y z;refine aZ (DB:=[]) (IL:=[]) (WL:=[]) (fn:=Proofs.Tryz.f74) rfl rfl rfl rfl rfl rfl (fun hk=>?_) m ids vs hG hm hv
  clear hG hm hv
  repeat' (refine bc_ fun g_=>?_;(conv at g_=>(arg 1;whnf));refine g_ ?_;clear g_;first|((fail_if_success (apply Ih));(fail_if_success (apply Fu));apply Or.inl)|(apply F7;exact F8;exact bA)|(apply GK;exact bA)|(apply aP;first|exact qO)|(apply And.intro<;>(intro h;have hc:=h;try simp only [bs]at h))|(intro h;(try (unfold und at h;conv at h=>whnf));try simp only [bs]at h)|(apply qB;exact qA)|(apply qD;exact qC))
  all_goals conv=>whnf
  all_goals simp_all [l7]
 ·trivial
def F79:Fact E0:=⟨74,a79,by unfold dA;kernel_rfl,o79⟩
def wAcc (s:ByteArray) (p:Int):Nat->UInt64
 |0=>0
 |k+1=>wAcc s p k ||| Fy (UInt64.ofNat (rz s (p+k)).toNat) (8*k)
def WX (s:ByteArray) (p z:Int) (g:Bool):Int:=if l7 s p z then(if g then((IntKind.i64.wrap (Fy (wAcc s p z.toNat) (64-8*z)).toNat).fdiv (2 ^ (min (64-8*z).toNat 64)))else IntKind.i64.wrap (wAcc s p z.toNat).toNat)else 0
@[reducible] def a29:List SV->PR
 |[.str x,.i y,.i z,.b g]=>.ok (.jm [.i (WX x y z g),.b (l7 x y z)])
 |_=>.no
theorem o29:xU 24 a29:=by
 intro args m ids vs hG hm hv;unfold a29;split
 ·rename_i x y z g;refine aZ (DB:=[F79]) (IL:=[]) (WL:=[]) (fn:=Proofs.Tryz.f24) rfl rfl rfl rfl rfl rfl (fun hk=>?_) m ids vs hG hm hv
  clear hG hm hv;simp only [know]at hk
  repeat' (refine bc_ fun g_=>?_;(conv at g_=>(arg 1;whnf));refine g_ ?_;clear g_;first|((fail_if_success (apply Ih));(fail_if_success (apply Fu));apply Or.inl)|(apply F7;exact F8;exact bA)|(apply GK;exact bA)|(apply aP;first|exact qO)|(apply And.intro<;>(intro h;have hc:=h;try simp only [bs]at h))|(intro h;(try (unfold und at h;conv at h=>whnf));try simp only [bs]at h)|(apply qB;exact qA)|(apply qD;exact qC))
  all_goals conv=>whnf
  ·repeat' (
            conv=>whnf
            first|exact trivial|exact rfl|exact Or.inl rfl|exact Or.inr rfl|exact Or.inr (Or.inl rfl)|refine And.intro ?_ ?_)
   all_goals conv=>whnf
   all_goals simp_all [WX]
  ·have hw':=(Fe (s:=x) (p:=y) (z:=z)).1 (by assumption)
   refine Or.inl ⟨Nat,0,[],[0,1,2,3,18],fun k=>[(10,.jg (wAcc x y k)),(19,.i k)],fun _=>[],[],fun k=>k<=z.toNat,fun k=>z.toNat-k,0,Nat.zero_le _,?_,fun k hkz=>?_⟩
   ·repeat' (
             conv=>whnf
             first|exact trivial|exact rfl|exact Or.inl rfl|exact Or.inr rfl|exact Or.inr (Or.inl rfl)|refine And.intro ?_ ?_)
    all_goals conv=>whnf
   ·simp only at hkz
    repeat' (refine bc_ fun g_=>?_;(conv at g_=>(arg 1;whnf));refine g_ ?_;clear g_;first|((fail_if_success (apply Ih));(fail_if_success (apply Fu));apply Or.inl)|(apply F7;exact F8;exact bA)|(apply GK;exact bA)|(apply aP;first|exact qO)|(apply And.intro<;>(intro h;have hc:=h;try simp only [bs]at h))|(intro h;(try (unfold und at h;conv at h=>whnf));try simp only [bs]at h)|(apply qB;exact qA)|(apply qD;exact qC))
    all_goals conv=>whnf
    ·refine⟨k+1,au,by show z.toNat-(k+1)<z.toNat-k;omega,?_⟩
     repeat' (
              conv=>whnf
              first|exact trivial|exact rfl|exact Or.inl rfl|exact Or.inr rfl|exact Or.inr (Or.inl rfl)|refine And.intro ?_ ?_)
     all_goals conv=>whnf
    all_goals
      have e:k=z.toNat:=by omega
      subst e
    all_goals (refine And.intro ?_ (And.intro ?_ trivial))
    all_goals conv=>whnf
    all_goals simp_all [WX]
 ·trivial
inductive Sh
 |i
 |b
 |s
 |w8
 |jg
 |n
 |l (c:Nat)
 |g (l:List Sh)
 |p (l:List Sh)
 |k (f:FuncId) (a b:List Sh)
mutual
def ShR:Sh->Type->Type
 |.i,R=>Int->R
 |.b,R=>Bool->R
 |.s,R=>ByteArray->R
 |.w8,R=>UInt8->R
 |.jg,R=>UInt64->R
 |.n,R=>R
 |.l c,R=>Li c->R
 |.g l,R=>IC l R
 |.p l,R=>IC l R
 |.k _ a b,R=>IC a (IC b R)
def IC:List Sh->Type->Type
 |[],R=>R
 |s::r,R=>ShR s (IC r R)
end
mutual
def apS:(s:Sh)->{R:Type}->ShR s R->SV->Option R
 |.i,_,g,v=>match v with
   |.i n=>some (g n)
   |_=>none
 |.b,_,g,v=>match v with
   |.b n=>some (g n)
   |_=>none
 |.s,_,g,v=>match v with
   |.str n=>some (g n)
   |_=>none
 |.w8,_,g,v=>match v with
   |.w8 n=>some (g n)
   |_=>none
 |.jg,_,g,v=>match v with
   |.jg n=>some (g n)
   |_=>none
 |.n,_,g,v=>match v with
   |.v (.slice none 0 0)=>some g
   |_=>none
 |.l c,_,g,v=>match asL c v with
   |some l=>some (g l)
   |none=>none
 |.g l,_,g,v=>match v with
   |.agg q=>apL l g q
   |_=>none
 |.p l,_,g,v=>match v with
   |.fp q o=>match o with
     |0=>apL l g q
     |_=>none
   |_=>none
 |.k f a b,_,g,v=>match v with
   |.nL f' x y=>match Nat.beq f f' with
     |true=>match apL a g x with
       |some g'=>apL b g' y
       |none=>none
     |false=>none
   |_=>none
def apL:(l:List Sh)->{R:Type}->IC l R->List SV->Option R
 |[],_,g,q=>match q with
   |[]=>some g
   |_=>none
 |s::r,_,g,q=>match q with
   |x::q=>match apS s g x with
     |some g'=>apL r g' q
     |none=>none
   |[]=>none
end
mutual
def AlS:(s:Sh)->{R:Type}->(SV->R->Prop)->ShR s R->Prop
 |.i,_,P,g=>∀ n,P (.i n) (g n)
 |.b,_,P,g=>∀ n,P (.b n) (g n)
 |.s,_,P,g=>∀ n,P (.str n) (g n)
 |.w8,_,P,g=>∀ n,P (.w8 n) (g n)
 |.jg,_,P,g=>∀ n,P (.jg n) (g n)
 |.n,_,P,g=>P .nl g
 |.l c,_,P,g=>∀ n,P (.aW none c n) (g n)
 |.g l,_,P,g=>AlL l (fun q r=>P (.agg q) r) g
 |.p l,_,P,g=>AlL l (fun q r=>P (.fp q 0) r) g
 |.k f a b,_,P,g=>AlL a (fun x g'=>AlL b (fun y r=>P (.nL f x y) r) g') g
def AlL:(l:List Sh)->{R:Type}->(List SV->R->Prop)->IC l R->Prop
 |[],_,P,g=>P [] g
 |s::r,_,P,g=>AlS s (fun x g'=>AlL r (fun q r'=>P (x::q) r') g') g
end
section
variable {m:Mm} {ids:List Value}
mutual
theorem apS_ok:∀ (s:Sh) {R:Type} {g:ShR s R} {P:SV->R->Prop} {v:SV} {r:R} {y:Value},AlS s P g->apS s g v=some r->Den m ids v y->∃ v',Den m ids v' y/\nf v'=true/\P v' r:=by
 intro s R g P v r y ha hs hd;cases s<;>simp only [apS]at hs<;>simp only [AlS]at ha
 case l c =>
   split at hs
   ·rename_i l hl;cases hs;exact⟨.aW none c l,(Yj c l y).1 (Rq hl hd),rfl,ha l⟩
   ·cases hs
 case g l =>
   split at hs
   ·rw [Den]at hd;obtain⟨us,h1,h2⟩:=hd;obtain⟨q,h3,h4,h5⟩:=Dr l ha hs h2;exact⟨.agg q,by rw [Den];exact⟨us,h1,h3⟩,h4,h5⟩
   ·cases hs
 case p l =>
   split at hs
   ·split at hs
    ·rw [Den]at hd;obtain⟨b,o,us,h1,h2,h3,h4⟩:=hd;obtain⟨q,h5,h6,h7⟩:=Dr l ha hs h4;exact⟨.fp q 0,by rw [Den];exact⟨b,o,us,h1,h2,h3,h5⟩,h6,h7⟩
    ·cases hs
   ·cases hs
 case k f a b =>
   split at hs
   ·split at hs
    ·rename_i hf;split at hs
     ·rename_i hg;rw [Den]at hd;obtain⟨us,vs,h1,h2,h3⟩:=hd;obtain⟨q,h4,h5,h6⟩:=Dr a ha hg h2;obtain⟨q',h7,h8,h9⟩:=Dr b h6 hs h3;obtain rfl:=Nat.eq_of_beq_eq_true hf;exact⟨.nL _ q q',by rw [Den];exact⟨us,vs,h1,h4,h7⟩,by rw [nf,h5];exact h8,h9⟩
     ·cases hs
    ·cases hs
   ·cases hs
 case n =>
   split at hs
   ·cases hs;exact⟨_,hd,rfl,ha⟩
   ·cases hs
 all_goals
   split at hs
   ·cases hs;exact⟨_,hd,rfl,ha _⟩
   ·cases hs
theorem Dr:∀ (l:List Sh) {R:Type} {g:IC l R} {P:List SV->R->Prop} {q:List SV} {r:R} {us:List Value},AlL l P g->apL l g q=some r->aC m ids q us->∃ q',aC m ids q' us/\SQ q'=true/\P q' r:=by
 intro l R g P q r us ha hs hd
 cases l with
 |nil =>
   simp only [apL]at hs;simp only [AlL]at ha;split at hs
   ·cases hs;exact⟨[],hd,rfl,ha⟩
   ·cases hs
 |cons s l =>
   simp only [apL]at hs;simp only [AlL]at ha;split at hs
   ·split at hs
    ·rename_i g' hg;rw [aC]at hd;obtain⟨u,us',h1,h2,h3⟩:=hd;obtain⟨x,h4,h5,h6⟩:=apS_ok s ha hg h2;obtain⟨q',h7,h8,h9⟩:=Dr l h6 hs h3;exact⟨x::q',by rw [aC];exact⟨u,us',h1,h4,h7⟩,by rw [SQ,h5];exact h8,h9⟩
    ·cases hs
   ·cases hs
end
end
def apF (l:List Sh) (g:IC l PR) (args:List SV):PR:=match apL l g args with
 |some r=>r
 |none=>.no
def Wq (DB:List (Fact E0)) (IL:List (je E0)) (fn:Func) (c:Code) (N:Nat) (args:List SV) (s:SV):Prop :=
 kV (OT args [] 0) fun σ=>vc E0 (QC DB [] IL) N c σ (Qi E0 fn.results.toList fun s' σ=>IZ (vw (oZ σ (frN σ s')) s') s)
structure Wp (DB:List (Fact E0)) (IL:List (je E0)) (fn:Func) (c:Code) (N:Nat) (args:List SV) (r:PR):Prop where
 ok:match r with
   |.ok s=>Nat.ble (len args) N=true/\nf s=true/\(know args->Wq DB IL fn c N args s)
   |.ob p s=>Nat.ble (len args) N=true/\nf s=true/\(p->know args->Wq DB IL fn c N args s)
   |.no=>True
   |_=>False
theorem dP {DB:List (Fact E0)} {IL:List (je E0)} {fn:Func} {c:Code} {N:Nat} {args:List SV} {s:SV} (h:Nat.ble (len args) N=true) (h1:nf s=true) (h2:know args->Wq DB IL fn c N args s):Wp DB IL fn c N args (.ok s):=⟨h,h1,h2⟩
theorem fD {DB:List (Fact E0)} {IL:List (je E0)} {fn:Func} {c:Code} {N:Nat} {args:List SV} {p:Prop} {s:SV} (h:Nat.ble (len args) N=true) (h1:nf s=true) (h2:p->know args->Wq DB IL fn c N args s):Wp DB IL fn c N args (.ob p s):=⟨h,h1,h2⟩
theorem fok_ {f:FuncId} {fn:Func} {c:Code} {N:Nat} (hf:E0.P.funcs[f]?=some fn) (hb:fn.body=some c) (hN:fn.ntmps=N) {l:List Sh} {g:IC l PR} {DB:List (Fact E0)} {IL:List (je E0)} (h:AlL l (Wp DB IL fn c N) g):xU f (apF l g):=by
 intro args m ids vs hG hm hv;unfold apF;split
 ·rename_i r hr;obtain⟨q,h1,h2,⟨h3⟩⟩:=Dr l h hr hv
  cases r with
  |ok s=>exact aZ hf hb hN h3.1 h2 h3.2.1 h3.2.2 m ids vs hG hm h1
  |ob p s=>exact fun hp=>aZ hf hb hN h3.1 h2 h3.2.1 (h3.2.2 hp) m ids vs hG hm h1
  |no=>trivial
  |_=>exact h3.elim
 ·trivial
@[reducible] def bM (f:FuncId) (fn:Func) {c:Code} {N:Nat} (hf:E0.P.funcs[f]?=some fn) (hb:fn.body=some c) (hN:fn.ntmps=N) (l:List Sh) (g:IC l PR) (DB:List (Fact E0)) (IL:List (je E0)) (h:AlL l (Wp DB IL fn c N) g) (k:dA E0.P f:=by unfold dA;kernel_rfl):Fact E0:=⟨f,apF l g,k,fok_ hf hb hN h⟩
@[reducible] def kC (f:FuncId) (fn:Func) (hf:E0.P.funcs[f]?=some fn) (hs:fn.body.isSome=true) (k:dA E0.P f:=by unfold dA;kernel_rfl):je E0:=je.of f fn hf hs k
def sEd (e:Edge):Bool:=match e.ground with
 |.textOnly _=>false
 |.gcOnly _=>false
 |_=>true
def dMask:List Edge->Nat
 |[]=>0
 |e::r=>match sEd e with
   |true=>Nat.lor (Nat.shiftLeft 1 e.on) (dMask r)
   |false=>dMask r
def Uv (A:List (Nat×Nat)):List Edge->Nat
 |[]=>0
 |e::r=>match sEd e with
   |true=>match lk A e.on with
     |some a=>Nat.lor (Nat.lor (Nat.shiftLeft 1 e.on) a) (Uv A r)
     |none=>Nat.lor (Nat.shiftLeft 1 e.on) (Uv A r)
   |false=>Uv A r
def gzL (f:Value->Bool):List Value->Bool
 |[]=>true
 |x::r=>match f x with
   |true=>gzL f r
   |false=>false
def gz:Nat->Value->Bool
 |0,_=>false
 |n+1,v=>match v with
   |.int _ _=>true
   |.bool _=>true
   |.string _=>true
   |.tuple a=>gzL (gz n) a.toList
   |.agg a=>gzL (gz n) a.toList
   |_=>false
def kOf (o:Oper):Nat:=match o.op with
 |.load ..=>0
 |.lookup ..=>0
 |.alloc ..=>2
 |.box ..=>2
 |.buildSlice ..=>2
 |.makeSlice ..=>2
 |.makeMap ..=>2
 |.store ..=>3
 |.mapUpdate ..=>3
 |.insert ..=>3
 |.convert s d _=>match isStr E0 d,isStr E0 s with
   |true,false=>match E0.TI s with
     |some ⟨.slice _,_,_,_,_,_⟩=>0
     |_=>1
   |false,true=>match E0.TI d with
     |some ⟨.slice _,_,_,_,_,_⟩=>2
     |_=>1
   |_,_=>1
 |.call c=>match c.callee with
   |.builtin b=>match b with
     |.len=>0
     |.min=>1
     |.max=>1
     |_=>3
   |_=>match E0.TI o.type with
     |some i=>match gz 4 i.z with
       |true=>0
       |false=>2
     |none=>0
 |_=>1
def apX (n:Nat):List (Nat×Nat×Nat)->Nat->Option Nat
 |[],_=>none
 |(m,j,k)::r,i=>match Nat.beq m n,Nat.beq j i with
   |true,true=>some k
   |_,_=>apX n r i
def apK (xs:List (Nat×Nat×Nat)) (n:Nat):Nat->List Oper->List Nat
 |_,[]=>[]
 |i,o::r=>(match apX n xs i with
   |some k=>k
   |none=>kOf o)::apK xs n (i+1) r
structure SO where
 i:Nat
 k:Nat
 b:Nat
 d:Nat
 a:Nat
def fX (n:Nat) (K:Nat->Prop):Prop:=match n with
 |0=>K 0
 |n+1=>K (n+1)
def has3:List Nat->Bool
 |[]=>false
 |k::r=>match Nat.beq k 3 with
   |true=>true
   |false=>has3 r
def Y5 (K:List Nat->List SO->Prop) (h:Bool):Nat->List (Nat×Nat)->List Nat->List Oper->List Nat->List SO->Prop
 |i,A,k::ks,o::r,kd,l=>fN k fun k=>fN i fun i=>fX (Nat.shiftLeft 1 i) fun b=>fX (dMask o.after.toList) fun d=>match h with
   |true=>fX (Uv A o.after.toList) fun a=>Y5 K h (i+1) ((i,a)::A) ks r (k::kd) (⟨i,k,b,d,a⟩::l)
   |false=>Y5 K h (i+1) A ks r (k::kd) (⟨i,k,b,d,0⟩::l)
 |_,_,_,_,kd,l=>K kd l
def bars (m b:Nat):List SO->Bool
 |[]=>true
 |⟨_,k,c,_,a⟩::r=>match Nat.beq k 3,Nat.land c m,Nat.land a b with
   |true,_+1,0=>false
   |_,_,_=>bars m b r
def YB (m:Nat):List SO->Option SO
 |[]=>none
 |⟨i,k,b,d,a⟩::r=>match k with
   |1=>match Nat.land b m,Nat.land d m with
     |_+1,0=>some ⟨i,k,b,d,a⟩
     |_,_=>YB m r
   |_=>YB m r
def SC (B:List SO) (m:Nat):List SO->Option SO
 |[]=>none
 |⟨i,k,b,d,a⟩::r=>match k with
   |0=>match Nat.land b m,Nat.land d m with
     |_+1,0=>match bars m b B with
       |true=>some ⟨i,k,b,d,a⟩
       |false=>SC B m r
     |_,_=>SC B m r
   |_=>SC B m r
def pickR (m:Nat):List SO->Option SO
 |[]=>none
 |⟨i,k,b,d,a⟩::r=>match Nat.land b m,Nat.land d m with
   |_+1,0=>some ⟨i,k,b,d,a⟩
   |_,_=>pickR m r
def pickA (B:List SO) (m:Nat) (l:List SO):Option SO:=match YB m l with
 |some x=>some x
 |none=>match SC B m l with
   |some x=>some x
   |none=>pickR m l
def dropD (m:Nat):List SO->List SO
 |[]=>[]
 |⟨i,k,b,d,a⟩::r=>match Nat.land b m with
   |0=>dropD m r
   |_+1=>⟨i,k,b,d,a⟩::r
def onB:List SO->List SO->List SO
 |[],B=>B
 |⟨i,k,b,d,a⟩::r,B=>match Nat.beq k 3 with
   |true=>onB r (⟨i,k,b,d,a⟩::B)
   |false=>onB r B
def fL1 {α:Type} (l:List α) (K:List α->Prop):Prop:=match l with
 |[]=>K []
 |x::r=>K (x::r)
def U9 {α:Type} (K:List α->Prop):List α->List α->Prop
 |l,[]=>K l
 |l,x::r=>U9 K (x::l) r
def goO (K:List Nat->Prop) (B:List SO):Nat->Nat->List SO->List Nat->Prop
 |0,_,_,r=>U9 K [] r
 |n+1,m,l,r=>fL1 (dropD m l) fun l=>match pickA B m l with
   |some ⟨i,_,b,_,_⟩=>fX (m-b) fun m=>goO K B n m l (i::r)
   |none=>U9 K [] r
def autoR (xs:List (Nat×Nat×Nat)) (ops:List Oper) (K:List Nat->List Nat->Prop):Prop :=
 Y5 (fun kd l=>U9 (fun kd=>U9 (fun l=>fL1 (onB l []) fun B=>goO (fun o=>K kd o) B (len ops) (Nat.shiftLeft 1 (len ops)-1) l []) [] l) [] kd) (has3 (apK xs (len ops) 0 ops)) 0 [] (apK xs (len ops) 0 ops) ops [] []
theorem Ua (n:Nat) (K:Nat->Prop):fX n K=K n:=by cases n<;>rfl
theorem Az {α:Type} {K:List α->Prop}:∀ (l r:List α),U9 K l r->∃ q,K q
 |l,[],h=>⟨l,h⟩
 |l,x::r,h=>Az (x::l) r h
theorem Xf {α:Type} (l:List α) (K:List α->Prop):fL1 l K=K l:=by cases l<;>rfl
theorem Ls {K:List Nat->Prop} {B:List SO}:∀ (n m:Nat) (l:List SO) (r:List Nat),goO K B n m l r->∃ q,K q
 |0,_,_,r,h=>Az _ r h
 |n+1,m,l,r,h=>by
   rw [goO,Xf]at h;split at h
   ·rw [Ua]at h;exact Ls n _ _ _ h
   ·exact Az _ r h
theorem Mg {K:List Nat->List SO->Prop} {hh:Bool}:∀ (ops:List Oper) (i:Nat) (A:List (Nat×Nat)) (ks kd:List Nat) (l:List SO),Y5 K hh i A ks ops kd l->∃ kd l,K kd l
 |[],_,_,ks,kd,l,h=>by cases ks<;>exact⟨_,_,h⟩
 |o::r,i,A,[],kd,l,h=>⟨_,_,h⟩
 |o::r,i,A,k::ks,kd,l,h=>by
   rw [Y5,oL,oL,Ua,Ua]at h
   cases hh with
   |true =>
     simp only [Ua]at h;exact Mg r _ _ _ _ _ h
   |false=>exact Mg r _ _ _ _ _ h
theorem autoR_ex {xs:List (Nat×Nat×Nat)} {ops:List Oper} {K:List Nat->List Nat->Prop} (h:autoR xs ops K):∃ kd l,K kd l:=by
 obtain⟨kd,l,h⟩:=Mg _ _ _ _ _ _ h;obtain⟨kd,h⟩:=Az _ _ h;obtain⟨l,h⟩:=Az _ _ h;rw [Xf]at h;obtain⟨o,h⟩:=Ls _ _ _ _ h;exact⟨_,_,h⟩
structure Hq (Q:Prop):Prop where
 ok:Q
structure Hx (x:List (Nat×Nat×Nat)):Prop where
theorem dr_ {x:List (Nat×Nat×Nat)} (_:Hx x) {ops:Array Oper} {E:En} {DB:Db E} {N:Nat} {σ:St} {K:St->Prop} {q:Prop} (h:autoR x ops.toList fun kd l=>okX .any ops (fun i=>List.getD kd i 3) l=true/\yP E DB N ops (fun i=>List.getD kd i 3) l σ K) :
   (∃ kd l,okX .any ops (fun i=>List.getD kd i 3) l=true/\yP E DB N ops (fun i=>List.getD kd i 3) l σ K)\/q:=Or.inl (autoR_ex h)
theorem obd_ {P:Prop} (h:P:=by intro hq;(try (conv at hq=>whnf));simp only [bs]at hq;omega):P:=h
theorem nc_ {P:Prop} {a b:Bool} (k:(a=false/\b=true)\/(a=true/\b=false):=by first|exact .inl ⟨rfl,rfl⟩|exact .inr ⟨rfl,rfl⟩|exact .inl ⟨by with_reducible assumption,rfl⟩|exact .inr ⟨by with_reducible assumption,rfl⟩|exact .inl ⟨hd,rfl⟩|exact .inr ⟨hd,rfl⟩|exact .inl ⟨hd2,rfl⟩|exact .inr ⟨hd2,rfl⟩|exact .inl ⟨hd0,rfl⟩|exact .inr ⟨hd0,rfl⟩):a=b->P:=by
 intro h;rcases k with ⟨k,l⟩|⟨k,l⟩
 ·rw [k,l]at h;cases h
 ·rw [k,l]at h;cases h
theorem bF_ {c:Bool} {A B:Prop} (h:c=true->A) (k:c=false->B):(c=true->A)/\(c=false->B):=⟨h,k⟩
theorem bT_ {c:Bool} {A B:Prop} (h:c=false->B) (k:c=true->A):(c=true->A)/\(c=false->B):=⟨k,h⟩
structure Bq (a b:Prop):Prop where
 a:a
 b:b
structure Iq (a:Prop):Prop where
 a:a
theorem B_ {a b:Prop} (h:a) (k:b):Bq a b:=⟨h,k⟩
theorem I_ {a:Prop} (h:a):Iq a:=⟨h⟩
theorem br_ {c:Bool} {A B C D:Prop} (h:c=true->C) (k:c=false->D) (q:Bq (C->c=true->A) (D->c=false->B)):(c=true->A)/\(c=false->B):=⟨fun a=>q.1 (h a) a,fun b=>q.2 (k b) b⟩
theorem im0_ {p A:Prop} (h:p->A):p->A:=h
theorem im_ {p C A:Prop} (h:p->C) (q:Iq (C->A)):p->A:=fun a=>q.1 (h a)
theorem hs_ {p C:Prop} (h:p->C:=by intro h;(try simp only [bs]at h);exact h):p->C:=h
theorem hu_ {p C:Prop} (h:p->C:=by intro h;(try (unfold und at h;conv at h=>whnf));(try simp only [bs]at h);exact h):p->C:=h
theorem nb_ {p:Prop} {K:Bool->Prop} (h:¬ p) (k:K false):∀ b:Bool,(b=true->p)->K b:=fun b hb=>by
 cases b
 ·exact k
 ·exact absurd (hb rfl) h
theorem nbx_ {p:Prop} {K:Bool->Prop} (q:Bq (p->True->K true) (True->True->K false)):∀ b:Bool,(b=true->p)->K b:=fun b hb=>by
 cases b
 ·exact q.2 trivial trivial
 ·exact q.1 (hb rfl) trivial
theorem ww_ {n:Int} {K:Int->Prop} (k:K (IntKind.i64.wrap n)):∃ x,IntKind.i64.wrap n=x/\K x:=⟨_,rfl,k⟩
theorem wx_ {q:Prop} {n:Int} {K:Int->Prop} (k:K (IntKind.i64.wrap n)):∃ x,(q->IntKind.i64.wrap n=x)/\K x:=⟨_,fun _=>rfl,k⟩
theorem w_ {P Q:Prop} (q:Q) (h:Hq Q->P:=by intro q_;refine bc_ fun g_=>?_;(conv at g_=>(arg 1;whnf));refine g_ ?_;clear g_;exact q_.1):P:=h ⟨q⟩
theorem jU {P Q:Prop} (q:Q) (h:Hq Q->P:=by intro q_;(try refine yF (by assumption) ?_);refine bc_ fun g_=>?_;(conv at g_=>(arg 1;whnf));refine g_ ?_;clear g_;exact q_.1):P:=h ⟨q⟩
theorem bO {P Q T:Prop} {x:List (Nat×Nat×Nat)} (hx:Hx x) (t:T) (q:Q) (h:Hx x->T->Hq Q->P:=by intro QY t_ q_;first|(apply dr_ QY;(conv=>whnf);refine And.intro (by decide +kernel) ?_;exact q_.1)|((fail_if_success (apply dr_ QY));(fail_if_success (apply Ih));(fail_if_success (apply Fu));apply Or.inl;exact q_.1)|(apply F7;exact F8;exact bA;exact q_.1)|(apply GK;exact bA;exact q_.1)|(apply aP;(first|exact t_|exact t_.1|exact t_.2|exact t_.2.1|exact t_.2.2|exact qO|exact of_decide_eq_true rfl|exact obd_|exact t_ au);exact q_.1)|(refine bF_ ?_ ?_;exact nc_;exact q_.1)|(refine bT_ ?_ ?_;exact nc_;exact q_.1)|(apply br_;exact hs_;exact hs_;exact q_.1)|(refine And.intro (by decide +kernel) ?_;exact q_.1)|(refine nb_ au ?_;exact q_.1)|(refine nbx_ ?_;exact q_.1)|(refine im0_ ?_;apply im_;exact hu_;exact q_.1)|(apply qB;exact qA;exact q_.1)|(apply qD;exact qC;exact q_.1)|(apply ww_;exact q_.1)|(apply wx_;exact q_.1)|(refine yF (by assumption) ?_;exact q_.1)):P:=h hx t ⟨q⟩
theorem XT {P Q T:Prop} {x:List (Nat×Nat×Nat)} (hx:Hx x) (t:T) (q:Q) (h:Hx x->T->Hq Q->P:=by intro QY t_ q_;first|(apply dr_ QY;(conv=>whnf);refine And.intro (by decide +kernel) ?_;exact q_.1)|((fail_if_success (apply dr_ QY));(fail_if_success (apply Ih));(fail_if_success (apply Fu));(fail_if_success (apply jR_));apply Or.inl;exact q_.1)|(apply F7;exact F8;exact bA;exact q_.1)|(apply GK;exact bA;exact q_.1)|(apply aP;(first|exact t_|exact t_.1|exact t_.2|exact t_.2.1|exact t_.2.2|exact qO|exact of_decide_eq_true rfl|exact obd_|exact t_ au);exact q_.1)|(refine bF_ ?_ ?_;exact nc_;exact q_.1)|(refine bT_ ?_ ?_;exact nc_;exact q_.1)|(apply br_;exact hs_;exact hs_;exact q_.1)|(refine And.intro (by decide +kernel) ?_;exact q_.1)|(refine nb_ au ?_;exact q_.1)|(refine nbx_ ?_;exact q_.1)|(refine im0_ ?_;apply im_;exact hu_;exact q_.1)|(apply qB;exact qA;exact q_.1)|(apply qD;exact qC;exact q_.1)|(apply ww_;exact q_.1)|(apply wx_;exact q_.1)|(refine yF (by assumption) ?_;exact q_.1)):P:=h hx t ⟨q⟩
theorem s_ {P Q T:Prop} {x:List (Nat×Nat×Nat)} (hx:Hx x) (t:T) (q:Q) (h:Hx x->T->Hq Q->P:=by intro QY t_ q_;refine w_ ?_;exact bO QY @t_ q_.1):P:=h hx t ⟨q⟩
theorem sj_ {P Q T:Prop} {x:List (Nat×Nat×Nat)} (hx:Hx x) (t:T) (q:Q) (h:Hx x->T->Hq Q->P:=by intro QY t_ q_;refine w_ ?_;exact XT QY @t_ q_.1):P:=h hx t ⟨q⟩
theorem h_ (x:List (Nat×Nat×Nat)):Hx x:=⟨⟩
theorem bK:Hx []:=⟨⟩
theorem dM {P Q:Prop} (q:Q) (h:Hx []->True->Hq Q->P:=by intro QY t_ q_;refine w_ ?_;exact bO QY t_ q_.1):P:=h bK trivial ⟨q⟩
theorem iF {P Q:Prop} (q:Q) (h:Hx []->True->Hq Q->P:=by intro QY t_ q_;refine jU ?_;exact bO QY t_ q_.1):P:=h bK trivial ⟨q⟩
theorem iw {P Q:Prop} (q:Q) (h:Hq Q->P:=by intro q_;(try refine yF (by assumption) ?_);(conv=>whnf);exact q_.1):P:=h ⟨q⟩
theorem l5 {P:Prop} (h:P:=by first|((try dsimp only);refine⟨au,au,hS.trans ((cK au).trans ?_)⟩;rw [show((k:Int)+1).toNat=k+1 by omega];symm;(try dsimp only);exact lI)|((try dsimp only);refine Eq.trans ?_ (hS.trans (cK au)).symm;exact lI)|((try dsimp only);refine Eq.trans ?_ (hS.trans (iZ au)).symm;exact lI)):P:=h
theorem g_ {P T:Prop} {x:List (Nat×Nat×Nat)} (hx:Hx x) (t:T) (h:Hx x->T->P:=by intro QY t_;(repeat intro _);(first|refine dP rfl rfl fun hk=>?_|refine fD rfl rfl fun hb hk=>?_);(try simp only [know]at hk);(repeat' first|((with_reducible apply B_)<;>intro h hc)|((with_reducible apply I_);intro h)|refine s_ QY @t_ ?_|fail);(all_goals (conv=>whnf));all_goals first|rfl|exact bA|exact lI):P:=h hx t
theorem kI {P:Prop} (h:P:=by exact g_ bK trivial):P:=h
abbrev q_TConv:List Sh:=[.s,.s,.s,.l 29,.i]
abbrev zI:List Sh:=[.i,.s,.l 29,.i]
abbrev dD:List Sh:=[.s,.b,.i,.i,.i,.s,.s,.i,.l 38,.l 40,.l 21,.l 0,.l 0,.l 42,.l 0,.l 0,.i,.l 1,.l 27,.l 9,.l 11,.l 44,.l 13,.l 46,.l 17,.l 49]
abbrev Em:List Sh:=[.l 9,.l 11,.l 44,.l 13,.l 46,.l 17]
abbrev nU:List Sh:=[.i,.i,.i,.s,.s,.i]
abbrev CF:List Sh:=[.i,.i,.i,.i,.i]
abbrev jP:List Sh:=[.l 0,.l 0,.l 35,.i,.i,.i,.i]
abbrev pY:List Sh:=[.i,.i,.s,.i]
abbrev uM:List Sh:=[.s,.i,.i,.i]
abbrev uL:List Sh:=[.s,.s,.i,.i,.i,.s,.l 7,.l 9,.l 11,.l 13,.l 15,.l 17]
abbrev uK:List Sh:=[.i,.i,.s,.i,.i,.i,.i,.i,.i]
abbrev bL:List Sh:=[.s,.l 61,.l 63,.l 65,.l 67,.l 69,.l 11,.l 13,.l 46,.l 17,.l 71]
abbrev JE:List Sh:=[.s,.s,.i,.i,.i,.s,.s]
abbrev zH:List Sh:=[.i,.i,.i,.i,.i,.i,.i]
abbrev Gg:List Sh:=[.s,.i,.i,.i,.s,.b]
abbrev lX:List Sh:=[.i,.i,.i,.i,.i,.i,.i,.i]
abbrev JD:List Sh:=[.s,.s,.b,.i,.i,.i,.i,.i,.i,.i]
abbrev fC:List Sh:=[.i,.i,.i,.i]
abbrev dH:List Sh:=[.s,.b,.l 19,.l 21,.l 23,.l 6,.l 6,.l 1,.i,.i,.i,.i,.l 27,.l 31]
abbrev wH:List Sh:=[.i,.i,.i,.s,.i,.i]
def qL (a s:Int):Bool:=decide (0<=a)&&decide (a<=1099511627776)&&decide (0<=s)&&decide (s<=1099511627776-a)
@[reducible] def a221:List SV->PR
 |[.agg [.i a,.i s]]=>.ok (.b (qL a s))
 |_=>.no
theorem o221:xU 218 a221:=by
 intro args m ids vs hG hm hv;unfold a221;split
 ·rename_i a s;refine aZ (DB:=[]) (IL:=[]) (WL:=[]) (fn:=Proofs.Tryz.f218) rfl rfl rfl rfl rfl rfl (fun hk=>?_) m ids vs hG hm hv
  clear hG hm hv
  repeat' first|refine dM ?_|apply B_<;>intro h hc|apply I_;intro h
  all_goals conv=>whnf
  all_goals simp_all [qL]
 ·trivial
def F221:Fact E0:=⟨218,a221,by unfold dA;kernel_rfl,o221⟩
@[reducible] def a224:List SV->PR
 |[.agg [.i a,.i s]]=>.ob (lC (a+s)) (.i (a+s))
 |_=>.no
theorem o224:xU 221 a224:=by
 intro args m ids vs hG hm hv;unfold a224;split
 ·rename_i a s;intro hb;refine aZ (DB:=[]) (IL:=[]) (WL:=[]) (fn:=Proofs.Tryz.f221) rfl rfl rfl rfl rfl rfl (fun hk=>?_) m ids vs hG hm hv
  clear hG hm hv
  repeat' first|refine dM ?_|apply B_<;>intro h hc|apply I_;intro h
  all_goals conv=>whnf
 ·trivial
def F224:Fact E0:=⟨221,a224,by unfold dA;kernel_rfl,o224⟩
def rOk (l:List dQ) (i:Nat):Bool:=qL (gt 44 l i).At (gt 44 l i).Size&&decide ((gt 44 l i).Size≠0)&&(decide (i=0)||decide ((gt 44 l (i-1)).At+(gt 44 l (i-1)).Size<(gt 44 l i).At))
def Cz (l:List dQ):Bool:=(List.range l.length).all (rOk l)
@[reducible] def a220:List SV->PR
 |[.aW _ 44 l]=>.ok (.b (Cz l))
 |_=>.no
theorem o220:xU 217 a220:=by
 intro args m ids vs hG hm hv;unfold a220;split
 ·rename_i z l;refine aZ (DB:=[F221,F224]) (IL:=[]) (WL:=[]) (fn:=Proofs.Tryz.f217) rfl rfl rfl rfl rfl rfl (fun hk=>?_) m ids vs hG hm hv
  clear hG hm hv;simp only [know]at hk
  repeat' first|refine dM ?_|apply B_<;>intro h hc|apply I_;intro h
  all_goals conv=>whnf
  refine Or.inl ⟨Nat,0,[],[0,5,6],fun k=>[(7,.i k)],fun _=>[],[],fun k=>k<=l.length/\∀ j,j<k->rOk l j=true,fun k=>l.length-k,0,⟨Nat.zero_le _,fun j hj=>absurd hj (Nat.not_lt_zero _)⟩,?_,fun k ⟨hkl,hok⟩=>?_⟩
  ·repeat' (
            conv=>whnf
            first|exact trivial|exact rfl|exact Or.inl rfl|exact Or.inr rfl|exact Or.inr (Or.inl rfl)|refine And.intro ?_ ?_)
   all_goals conv=>whnf
  ·repeat' first|refine dM ?_|apply B_<;>intro h hc|apply I_;intro h
   all_goals conv=>whnf
   ·refine And.intro (Ob.mk ?_) ?_
    ·intro hq;simp only [bs]at hq;have e:((k:Int)-1).toNat=k-1:=by omega
     have hp:=hok (k-1) au
     simp only [rOk,qL,bs]at hp;rw [e];constructor<;>omega
    ·repeat' first|refine dM ?_|apply B_<;>intro h hc|apply I_;intro h
     all_goals conv=>whnf
     ·have e:((k:Int)-1).toNat=k-1:=by omega
      have hl:k<l.length:=by omega
      have hf:rOk l k=false:=by
        rw [e]at h;simp only [rOk,bs];rcases h with (h|h)|h
        ·exact .inl (.inl h)
        ·exact .inl (.inr (by simpa using h))
        ·exact .inr ⟨au,au⟩
      symm;exact List.all_eq_false.2 ⟨k,List.mem_range.2 hl,by simp [hf]⟩
     ·refine⟨k+1,⟨au,fun j hj=>?_⟩,by show l.length-(k+1)<l.length-k;omega,?_⟩
      ·rcases Nat.lt_succ_iff_lt_or_eq.1 hj with hj|rfl
       ·exact hok j hj
       ·have e:((j:Int)-1).toNat=j-1:=by omega
        simp only [bs]at hc;rw [e]at hc;simp only [rOk,bs];exact⟨⟨hc.1.1,hc.1.2⟩,hc.2.imp (fun h=>by omega) (fun h=>by omega)⟩
      ·repeat' (
                conv=>whnf
                first|exact trivial|exact rfl|exact Or.inl rfl|exact Or.inr rfl|exact Or.inr (Or.inl rfl)|refine And.intro ?_ ?_)
       all_goals conv=>whnf
   ·have e:k=l.length:=by omega
    subst e;symm;exact List.all_eq_true.2 fun j hj=>hok j (List.mem_range.1 hj)
 ·trivial
def Cu (k:Int):Bool:=decide (0<=k)&&decide (k<13)
@[reducible] def a27:List SV->PR
 |[.i k]=>.ok (.b (Cu k))
 |_=>.no
theorem o27:xU 23 a27:=by
 intro args m ids vs hG hm hv;unfold a27;split
 ·refine aZ (DB:=[]) (IL:=[]) (WL:=[]) (fn:=Proofs.Tryz.f23) rfl rfl rfl rfl rfl rfl (fun hk=>?_) m ids vs hG hm hv
  clear hG hm hv
  repeat' first|refine dM ?_|apply B_<;>intro h hc|apply I_;intro h
  all_goals conv=>whnf
  all_goals rfl
 ·trivial
def F27:Fact E0:=⟨23,a27,by unfold dA;kernel_rfl,o27⟩
def cu (k:Int):Int×Int:=if Cu k then((gt 54 oJ k.toNat).off,(gt 54 oJ k.toNat).size)else(0,0)
@[reducible] def a23:List SV->PR
 |[.i k]=>.ok (.jm [.i (cu k).1,.i (cu k).2])
 |_=>.no
theorem o23:xU 322 a23:=by
 intro args m ids vs hG hm hv;unfold a23;split
 ·rename_i k;refine aZ (DB:=[F27]) (IL:=[]) (WL:=[]) (fn:=Proofs.Tryz.f322) rfl rfl rfl rfl rfl rfl (fun hk=>?_) m ids vs hG hm hv
  clear hG hm hv
  repeat' first|refine dM ?_|apply B_<;>intro h hc|apply I_;intro h
  all_goals conv=>whnf
  ·repeat' (
            conv=>whnf
            first|exact trivial|exact rfl|exact Or.inl rfl|exact Or.inr rfl|exact Or.inr (Or.inl rfl)|refine And.intro ?_ ?_)
   all_goals conv=>whnf
   all_goals simp_all [cu]
  ·have hi:0<=k/\k<13:=by simpa [Cu] using h
   have hi':0<=k/\k<((13:Nat):Int):=hi
   repeat' first|refine dM ?_|apply B_<;>intro h hc|apply I_;intro h
   all_goals conv=>whnf
   repeat' (
            conv=>whnf
            first|exact trivial|exact rfl|exact Or.inl rfl|exact Or.inr rfl|exact Or.inr (Or.inl rfl)|refine And.intro ?_ ?_)
   all_goals conv=>whnf
   all_goals simp_all [cu]
 ·trivial
def shr (n b:Int):Int:=n.fdiv (2 ^ min b.toNat 64)
def lV (n b:Int) (g:Bool):Bool:=!(decide (b<1)||decide (64<b))&&(if g then decide (shr n (b-1)=0)||decide (shr n (b-1) = -1)else decide (0<=n)&&(decide (63<=b)||decide (shr n b=0)))
@[reducible] def a184:List SV->PR
 |[.i n,.i b,.b g]=>.ok (.b (lV n b g))
 |_=>.no
theorem o184:xU 181 a184:=by
 intro args m ids vs hG hm hv;unfold a184;split
 ·rename_i n b g;refine aZ (DB:=[]) (IL:=[]) (WL:=[]) (fn:=Proofs.Tryz.f181) rfl rfl rfl rfl rfl rfl (fun hk=>?_) m ids vs hG hm hv
  clear hG hm hv
  repeat' first|refine dM ?_|apply B_<;>intro h hc|apply I_;intro h
  all_goals conv=>whnf
  ·have e:(!(decide (b<1)||decide (64<b)))=false:=by rcases h with h|h<;>simp [h]
   rw [lV,e];rfl
  all_goals simp_all [lV,shr]
 ·trivial
def F184:Fact E0:=⟨181,a184,by unfold dA;kernel_rfl,o184⟩
def yO (n t:Int):Int:=if t<1\/1099511627776<t\/n < -1152921504606846976\/1152921504606846976<n then n else n-(if n.tmod t<0 then n.tmod t+t else n.tmod t)
theorem XB (n t:Int) (h:1<=t):-t<n.tmod t/\n.tmod t<t:=by
 have h1:=Int.tmod_lt_of_pos n (b:=t) au
 have h2:=Int.lt_tmod_of_pos n (b:=t) au
 omega
@[reducible] def a186:List SV->PR
 |[.i n,.i t]=>.ok (.i (yO n t))
 |_=>.no
theorem o186:xU 183 a186:=by
 intro args m ids vs hG hm hv;unfold a186;split
 ·rename_i n t;refine aZ (DB:=[]) (IL:=[]) (WL:=[]) (fn:=Proofs.Tryz.f183) rfl rfl rfl rfl rfl rfl (fun hk=>?_) m ids vs hG hm hv
  clear hG hm hv;have ht:=XB n t
  repeat' first|refine dM ?_|apply B_<;>intro h hc|apply I_;intro h
  all_goals conv=>whnf
  ·rw [yO,if_pos au]
  ·rw [yO,if_neg au,if_pos au]
  ·rw [yO,if_neg au,if_neg au]
 ·trivial
def F186:Fact E0:=⟨183,a186,by unfold dA;kernel_rfl,o186⟩
theorem wDown_b (n t:Int):yO n t≠n->1<=t/\t<=1099511627776/\-1152921504606846976<=n/\n<=1152921504606846976/\n-t<yO n t/\yO n t<=n:=by
 intro h;unfold yO at h ⊢;have ht:=XB n t;split at h
 ·exact absurd rfl h
 ·rename_i hc;rw [if_neg hc];split<;>omega
def wUp (n t:Int):Int:=if yO n t≠n then yO n t+t else n
@[reducible] def a82:List SV->PR
 |[.i n,.i t]=>.ok (.i (wUp n t))
 |_=>.no
theorem o82:xU 77 a82:=by
 intro args m ids vs hG hm hv;unfold a82;split
 ·rename_i n t;refine aZ (DB:=[F186]) (IL:=[]) (WL:=[]) (fn:=Proofs.Tryz.f77) rfl rfl rfl rfl rfl rfl (fun hk=>?_) m ids vs hG hm hv
  clear hG hm hv;have ht:=wDown_b n t
  repeat' first|refine dM ?_|apply B_<;>intro h hc|apply I_;intro h
  all_goals conv=>whnf
  all_goals simp_all [wUp]
 ·trivial
def F82:Fact E0:=⟨77,a82,by unfold dA;kernel_rfl,o82⟩
def PD (n:Int):Bool:=decide (1<=n)&&decide (n<=256)&&decide (iand n (n-1)=0)
@[reducible] def a273:List SV->PR
 |[.i n]=>.ok (.b (PD n))
 |_=>.no
theorem o273:xU 270 a273:=by
 intro args m ids vs hG hm hv;unfold a273;split
 ·rename_i n;refine aZ (DB:=[]) (IL:=[]) (WL:=[]) (fn:=Proofs.Tryz.f270) rfl rfl rfl rfl rfl rfl (fun hk=>?_) m ids vs hG hm hv
  clear hG hm hv
  repeat' first|refine dM ?_|apply B_<;>intro h hc|apply I_;intro h
  all_goals conv=>whnf
  all_goals rfl
 ·trivial
def F273:Fact E0:=⟨270,a273,by unfold dA;kernel_rfl,o273⟩
def VO (p:Nat->Bool) (n:Nat):Nat->Int
 |0=>-1
 |r+1=>if p (n-(r+1))then((n-(r+1):Nat):Int)else VO p n r
def idx (p:Nat->Bool) (n:Nat):Int:=VO p n n
theorem J7 {p:Nat->Bool} {n k:Nat} (hk:k<n) (h0:∀ j,j<k->p j=false) (h1:p k=true):idx p n=k:=by
 have key:∀ r,r<=n->n-r<=k->VO p n r=k:=by
   intro r
   induction r with
   |zero=>intro _ h;omega
   |succ r ih =>
     intro hr h;rw [VO]
     by_cases e:n-(r+1)=k
     ·rw [e,if_pos h1]
     ·rw [h0 _ au,if_neg (by simp)]
      exact ih au au
 exact key n (Nat.le_refl _) au
theorem Hl {p:Nat->Bool} {n:Nat} (h0:∀ j,j<n->p j=false):idx p n = -1:=by
 have key:∀ r,r<=n->VO p n r = -1:=by
   intro r
   induction r with
   |zero=>intro _;rfl
   |succ r ih =>
     intro hr;rw [VO,h0 _ au,if_neg (by simp)]
     exact ih au
 exact key n (Nat.le_refl _)
def eqI (a b:Int):Bool:=decide (a=b)
theorem eqI_t {a b:Int} (h:a=b):eqI a b=true:=decide_eq_true h
theorem Ud {a b:Int} (h:¬ a=b):eqI a b=false:=decide_eq_false h
def Ho (l:List Int) (x:Int):Int:=idx (fun k=>eqI x (gt 0 l k)) l.length
@[reducible] def a148:List SV->PR
 |[.aW _ 0 l,.i x]=>.ok (.i (Ho l x))
 |_=>.no
theorem o148:xU 143 a148:=by
 intro args m ids vs hG hm hv;unfold a148;split
 ·rename_i z l x;refine aZ (DB:=[]) (IL:=[]) (WL:=[]) (fn:=Proofs.Tryz.f143) rfl rfl rfl rfl rfl rfl (fun hk=>?_) m ids vs hG hm hv
  clear hG hm hv;simp only [know]at hk
  repeat' first|refine dM ?_|apply B_<;>intro h hc|apply I_;intro h
  all_goals conv=>whnf
  refine Or.inl ⟨Nat,0,[],[0,1,6,7],fun k=>[(8,.i k)],fun _=>[],[],fun k=>k<=l.length/\∀ j,j<k->eqI x (gt 0 l j)=false,fun k=>l.length-k,0,⟨Nat.zero_le _,fun j hj=>absurd hj (Nat.not_lt_zero _)⟩,?_,fun k ⟨hkl,hok⟩=>?_⟩
  ·repeat' (
            conv=>whnf
            first|exact trivial|exact rfl|exact Or.inl rfl|exact Or.inr rfl|exact Or.inr (Or.inl rfl)|refine And.intro ?_ ?_)
   all_goals conv=>whnf
  ·repeat' first|refine dM ?_|apply B_<;>intro h hc|apply I_;intro h
   all_goals conv=>whnf
   ·exact(J7 (n:=l.length) au hok (eqI_t h)).symm
   ·refine⟨k+1,⟨au,fun j hj=>?_⟩,by show l.length-(k+1)<l.length-k;omega,?_⟩
    ·rcases Nat.lt_succ_iff_lt_or_eq.1 hj with hj|rfl
     ·exact hok j hj
     ·exact Ud (by assumption)
    ·repeat' (
              conv=>whnf
              first|exact trivial|exact rfl|exact Or.inl rfl|exact Or.inr rfl|exact Or.inr (Or.inl rfl)|refine And.intro ?_ ?_)
     all_goals conv=>whnf
   ·have e:k=l.length:=by omega
    subst e;exact(Hl hok).symm
 ·trivial
def F148:Fact E0:=⟨143,a148,by unfold dA;kernel_rfl,o148⟩
def eqS (a b:ByteArray):Bool:=decide (a=b)
theorem eqS_t {a b:ByteArray} (h:a=b):eqS a b=true:=decide_eq_true h
theorem eqS_f {a b:ByteArray} (h:¬ a=b):eqS a b=false:=decide_eq_false h
def idxS (l:List ByteArray) (x:ByteArray):Int:=idx (fun k=>eqS x (gt 1 l k)) l.length
@[reducible] def a270:List SV->PR
 |[.aW _ 1 l,.str x]=>.ok (.i (idxS l x))
 |_=>.no
theorem o270:xU 267 a270:=by
 intro args m ids vs hG hm hv;unfold a270;split
 ·rename_i z l x;refine aZ (DB:=[]) (IL:=[]) (WL:=[]) (fn:=Proofs.Tryz.f267) rfl rfl rfl rfl rfl rfl (fun hk=>?_) m ids vs hG hm hv
  clear hG hm hv;simp only [know]at hk
  repeat' first|refine dM ?_|apply B_<;>intro h hc|apply I_;intro h
  all_goals conv=>whnf
  refine Or.inl ⟨Nat,0,[],[0,1,6,7],fun k=>[(8,.i k)],fun _=>[],[],fun k=>k<=l.length/\∀ j,j<k->eqS x (gt 1 l j)=false,fun k=>l.length-k,0,⟨Nat.zero_le _,fun j hj=>absurd hj (Nat.not_lt_zero _)⟩,?_,fun k ⟨hkl,hok⟩=>?_⟩
  ·repeat' (
            conv=>whnf
            first|exact trivial|exact rfl|exact Or.inl rfl|exact Or.inr rfl|exact Or.inr (Or.inl rfl)|refine And.intro ?_ ?_)
   all_goals conv=>whnf
  ·repeat' first|refine dM ?_|apply B_<;>intro h hc|apply I_;intro h
   all_goals conv=>whnf
   ·exact(J7 (n:=l.length) au hok (eqS_t h)).symm
   ·refine⟨k+1,⟨au,fun j hj=>?_⟩,by show l.length-(k+1)<l.length-k;omega,?_⟩
    ·rcases Nat.lt_succ_iff_lt_or_eq.1 hj with hj|rfl
     ·exact hok j hj
     ·exact eqS_f (by assumption)
    ·repeat' (
              conv=>whnf
              first|exact trivial|exact rfl|exact Or.inl rfl|exact Or.inr rfl|exact Or.inr (Or.inl rfl)|refine And.intro ?_ ?_)
     all_goals conv=>whnf
   ·have e:k=l.length:=by omega
    subst e;exact(Hl hok).symm
 ·trivial
def F270:Fact E0:=⟨267,a270,by unfold dA;kernel_rfl,o270⟩
@[reducible] def a51:List SV->PR
 |[.aW _ 0 l,.i x]=>.ok (.b (decide (0<=Ho l x)))
 |_=>.no
theorem o51:xU 46 a51:=by
 intro args m ids vs hG hm hv;unfold a51;split
 ·refine aZ (DB:=[F148]) (IL:=[]) (WL:=[]) (fn:=Proofs.Tryz.f46) rfl rfl rfl rfl rfl rfl (fun hk=>?_) m ids vs hG hm hv
  clear hG hm hv
  repeat' first|refine dM ?_|apply B_<;>intro h hc|apply I_;intro h
  all_goals conv=>whnf
 ·trivial
def F51:Fact E0:=⟨46,a51,by unfold dA;kernel_rfl,o51⟩
@[reducible] def a200:List SV->PR
 |[.aW _ 1 l,.str x]=>.ok (.b (decide (0<=idxS l x)))
 |_=>.no
theorem o200:xU 197 a200:=by
 intro args m ids vs hG hm hv;unfold a200;split
 ·refine aZ (DB:=[F270]) (IL:=[]) (WL:=[]) (fn:=Proofs.Tryz.f197) rfl rfl rfl rfl rfl rfl (fun hk=>?_) m ids vs hG hm hv
  clear hG hm hv
  repeat' first|refine dM ?_|apply B_<;>intro h hc|apply I_;intro h
  all_goals conv=>whnf
 ·trivial
def F200:Fact E0:=⟨197,a200,by unfold dA;kernel_rfl,o200⟩
@[reducible] def a83:List SV->PR
 |[.i a,.i b,.i c]=>.ok (.b (decide (b<=a)&&decide (a<=c)))
 |_=>.no
theorem o83:xU 78 a83:=by
 intro args m ids vs hG hm hv;unfold a83;split
 ·refine aZ (DB:=[]) (IL:=[]) (WL:=[]) (fn:=Proofs.Tryz.f78) rfl rfl rfl rfl rfl rfl (fun hk=>?_) m ids vs hG hm hv
  clear hG hm hv
  repeat' first|refine dM ?_|apply B_<;>intro h hc|apply I_;intro h
  all_goals conv=>whnf
  all_goals rfl
 ·trivial
def F83:Fact E0:=⟨78,a83,by unfold dA;kernel_rfl,o83⟩
@[reducible] def a88:List SV->PR
 |[.i a]=>.ok (.b (decide (a=0)||decide (a=1)||decide (a=2)))
 |_=>.no
theorem o88:xU 83 a88:=by
 intro args m ids vs hG hm hv;unfold a88;split
 ·refine aZ (DB:=[]) (IL:=[]) (WL:=[]) (fn:=Proofs.Tryz.f83) rfl rfl rfl rfl rfl rfl (fun hk=>?_) m ids vs hG hm hv
  clear hG hm hv
  repeat' first|refine dM ?_|apply B_<;>intro h hc|apply I_;intro h
  all_goals conv=>whnf
  all_goals rfl
 ·trivial
def F88:Fact E0:=⟨83,a88,by unfold dA;kernel_rfl,o88⟩
def p81 (n:Int):Bool:=decide (wUp n 256=n)
@[reducible] def b81:List SV->PR
 |[.i _,.i n]=>.ok (.b (p81 n))
 |_=>.no
theorem o81:xU 76 b81:=by
 intro args m ids vs hG hm hv;unfold b81;split
 ·refine aZ (DB:=[F82]) (IL:=[]) (WL:=[]) (fn:=Proofs.Tryz.f76) rfl rfl rfl rfl rfl rfl (fun hk=>?_) m ids vs hG hm hv
  clear hG hm hv
  repeat' first|refine dM ?_|apply B_<;>intro h hc|apply I_;intro h
  all_goals conv=>whnf
  all_goals rfl
 ·trivial
def F81:Fact E0:=⟨76,b81,by unfold dA;kernel_rfl,o81⟩
@[reducible] def a80:List SV->PR
 |[.aW _ 0 l,.nL 76 [] []]=>.ok (.b ((List.range l.length).all fun k=>p81 (gt 0 l k)))
 |_=>.no
theorem o80:xU 75 a80:=by
 intro args m ids vs hG hm hv;unfold a80;split
 ·rename_i z l;refine aZ (DB:=[F81]) (IL:=[]) (WL:=[]) (fn:=Proofs.Tryz.f75) rfl rfl rfl rfl rfl rfl (fun hk=>?_) m ids vs hG hm hv
  clear hG hm hv;simp only [know]at hk
  repeat' first|refine dM ?_|apply B_<;>intro h hc|apply I_;intro h
  all_goals conv=>whnf
  refine Or.inl ⟨Nat,0,[],[0,1,7,8],fun k=>[(9,.i k)],fun _=>[],[],fun k=>k<=l.length/\∀ j,j<k->p81 (gt 0 l j)=true,fun k=>l.length-k,0,⟨Nat.zero_le _,fun j hj=>absurd hj (Nat.not_lt_zero _)⟩,?_,fun k ⟨hkl,hok⟩=>?_⟩
  ·repeat' (
            conv=>whnf
            first|exact trivial|exact rfl|exact Or.inl rfl|exact Or.inr rfl|exact Or.inr (Or.inl rfl)|refine And.intro ?_ ?_)
   all_goals conv=>whnf
  ·repeat' first|refine dM ?_|apply B_<;>intro h hc|apply I_;intro h
   all_goals conv=>whnf
   ·symm;exact List.all_eq_false.2 ⟨k,List.mem_range.2 au,by rw [h];decide⟩
   ·refine⟨k+1,⟨au,fun j hj=>?_⟩,by show l.length-(k+1)<l.length-k;omega,?_⟩
    ·rcases Nat.lt_succ_iff_lt_or_eq.1 hj with hj|rfl
     ·exact hok j hj
     ·assumption
    ·repeat' (
              conv=>whnf
              first|exact trivial|exact rfl|exact Or.inl rfl|exact Or.inr rfl|exact Or.inr (Or.inl rfl)|refine And.intro ?_ ?_)
     all_goals conv=>whnf
   ·have e:k=l.length:=by omega
    subst e;symm;exact List.all_eq_true.2 fun j hj=>hok j (List.mem_range.1 hj)
 ·trivial
def F80:Fact E0:=⟨75,a80,by unfold dA;kernel_rfl,o80⟩
@[reducible] def a244:List SV->PR
 |[.i _]=>.ok (.b false)
 |_=>.no
theorem o244:xU 241 a244:=by
 intro args m ids vs hG hm hv;unfold a244;split
 ·refine aZ (DB:=[]) (IL:=[]) (WL:=[]) (fn:=Proofs.Tryz.f241) rfl rfl rfl rfl rfl rfl (fun hk=>?_) m ids vs hG hm hv
  clear hG hm hv
  repeat' first|refine dM ?_|apply B_<;>intro h hc|apply I_;intro h
  all_goals conv=>whnf
  all_goals simp
 ·trivial
def F244:Fact E0:=⟨241,a244,by unfold dA;kernel_rfl,o244⟩
@[reducible] def a193:List SV->PR
 |[.str _]=>.ok (.b false)
 |_=>.no
theorem o193:xU 190 a193:=by
 intro args m ids vs hG hm hv;unfold a193;split
 ·refine aZ (DB:=[]) (IL:=[]) (WL:=[]) (fn:=Proofs.Tryz.f190) rfl rfl rfl rfl rfl rfl (fun hk=>?_) m ids vs hG hm hv
  clear hG hm hv
  repeat' first|refine dM ?_|apply B_<;>intro h hc|apply I_;intro h
  all_goals conv=>whnf
  all_goals simp
 ·trivial
def F193:Fact E0:=⟨190,a193,by unfold dA;kernel_rfl,o193⟩
def uf (a b:Int):Int:=if a<b then -1 else if b<a then 1 else 0
@[reducible] def a166:List SV->PR
 |[.i a,.i b]=>.ok (.i (uf a b))
 |_=>.no
theorem o166:xU 163 a166:=by
 intro args m ids vs hG hm hv;unfold a166;split
 ·refine aZ (DB:=[F244]) (IL:=[]) (WL:=[]) (fn:=Proofs.Tryz.f163) rfl rfl rfl rfl rfl rfl (fun hk=>?_) m ids vs hG hm hv
  clear hG hm hv
  repeat' first|refine dM ?_|apply B_<;>intro h hc|apply I_;intro h
  all_goals conv=>whnf
  all_goals first|(exfalso;simp at *;done)|skip
  all_goals (unfold uf;split<;>(try split)<;>first|rfl|omega|(simp_all;done))
 ·trivial
def F166:Fact E0:=⟨163,a166,by unfold dA;kernel_rfl,o166⟩
def cmpS (a b:ByteArray):Int:=if wB a b then -1 else if !(wB a b||decide (a=b))then 1 else 0
@[reducible] def a94:List SV->PR
 |[.str a,.str b]=>.ok (.i (cmpS a b))
 |_=>.no
theorem o94:xU 89 a94:=by
 intro args m ids vs hG hm hv;unfold a94;split
 ·refine aZ (DB:=[F193]) (IL:=[]) (WL:=[]) (fn:=Proofs.Tryz.f89) rfl rfl rfl rfl rfl rfl (fun hk=>?_) m ids vs hG hm hv
  clear hG hm hv
  repeat' first|refine dM ?_|apply B_<;>intro h hc|apply I_;intro h
  all_goals conv=>whnf
  all_goals first|(exfalso;simp at *;done)|skip
  all_goals (unfold cmpS;split<;>(try split)<;>first|rfl|omega|(simp_all;done))
 ·trivial
def F94:Fact E0:=⟨89,a94,by unfold dA;kernel_rfl,o94⟩
def orF (l:Li 0):Nat->Int
 |0=>0
 |r+1=>bif eqI (gt 0 l (l.length-(r+1))) 0 then orF l r else gt 0 l (l.length-(r+1))
theorem orF_s (l:Li 0) (r:Nat):orF l (r+1)=bif eqI (gt 0 l (l.length-(r+1))) 0 then orF l r else gt 0 l (l.length-(r+1)):=rfl
def cOr (l:Li 0):Int:=orF l l.length
@[reducible] def a93:List SV->PR
 |[.aW _ 0 l]=>.ok (.i (cOr l))
 |_=>.no
theorem o93:xU 88 a93:=by
 intro args m ids vs hG hm hv;unfold a93;split
 ·rename_i z l;refine aZ (DB:=[]) (IL:=[]) (WL:=[]) (fn:=Proofs.Tryz.f88) rfl rfl rfl rfl rfl rfl (fun hk=>?_) m ids vs hG hm hv
  clear hG hm hv;simp only [know]at hk
  repeat' first|refine dM ?_|apply B_<;>intro h hc|apply I_;intro h
  all_goals conv=>whnf
  refine Or.inl ⟨Nat,0,[],[0,3,6,7],fun k=>[(8,.i k)],fun _=>[],[],fun k=>k<=l.length/\cOr l=orF l (l.length-k),fun k=>l.length-k,0,⟨Nat.zero_le _,rfl⟩,?_,fun k ⟨hkl,hok⟩=>?_⟩
  ·repeat' (
            conv=>whnf
            first|exact trivial|exact rfl|exact Or.inl rfl|exact Or.inr rfl|exact Or.inr (Or.inl rfl)|refine And.intro ?_ ?_)
   all_goals conv=>whnf
  ·repeat' first|refine dM ?_|apply B_<;>intro h hc|apply I_;intro h
   all_goals conv=>whnf
   ·have hl:l.length-k=(l.length-(k+1))+1:=by omega
    have hi:l.length-(l.length-(k+1)+1)=k:=by omega
    rw [hok,hl,orF_s l,hi,Ud h];rfl
   ·have hl:l.length-k=(l.length-(k+1))+1:=by omega
    have hi:l.length-(l.length-(k+1)+1)=k:=by omega
    refine⟨k+1,⟨au,?_⟩,by show l.length-(k+1)<l.length-k;omega,?_⟩
    ·rw [hok,hl,orF_s l,hi,eqI_t (a:=gt 0 l k) (b:=0) (by assumption)]
     rfl
    ·repeat' (
              conv=>whnf
              first|exact trivial|exact rfl|exact Or.inl rfl|exact Or.inr rfl|exact Or.inr (Or.inl rfl)|refine And.intro ?_ ?_)
     all_goals conv=>whnf
   ·have e:k=l.length:=by omega
    subst e;rw [hok,Nat.sub_self];rfl
 ·trivial
def F93:Fact E0:=⟨88,a93,by unfold dA;kernel_rfl,o93⟩
abbrev Jq:Fact E0:=F166
abbrev F_AS:Fact E0:=F94
abbrev F_AT:Fact E0:=F93
abbrev Dw:Fact E0:=F83
abbrev F_BF:Fact E0:=F88
abbrev F_Al:Fact E0:=F80
abbrev F_DH:Fact E0:=F27
abbrev F_DN:Fact E0:=F221
abbrev F_DM:Fact E0:=F224
abbrev WB:Fact E0:=F51
abbrev F_DX:Fact E0:=F200
abbrev F_Eq:Fact E0:=F79
abbrev F_Em:Fact E0:=F184
abbrev F_Eo:Fact E0:=F273
def lp {σ ρ:Type} (b:Nat->σ->(σ->ρ)->ρ) (fin:σ->ρ):Nat->Nat->σ->ρ
 |0,_,s=>fin s
 |r+1,k,s=>b k s (lp b fin r (k+1))
theorem cK {σ ρ:Type} {b:Nat->σ->(σ->ρ)->ρ} {fin:σ->ρ} {n k:Nat} {s:σ} (h:k<n):lp b fin (n-k) k s=b k s (lp b fin (n-(k+1)) (k+1)):=by
 have e:n-k=(n-(k+1))+1:=by omega
 rw [e,lp]
theorem iZ {σ ρ:Type} {b:Nat->σ->(σ->ρ)->ρ} {fin:σ->ρ} {n k:Nat} {s:σ} (h:n<=k):lp b fin (n-k) k s=fin s:=by
 have e:n-k=0:=by omega
 rw [e,lp]
def rV (k:Int):Int:=if k=1\/k=2 then 4 else 8
def F_BU:Fact E0:=bM 93 Proofs.Tryz.f93 rfl rfl rfl [.i] (fun k=>.ok (.i (rV k))) [] [] (by
   repeat intro _
   refine dP rfl rfl fun hk=>?_
   repeat' first|refine dM ?_|apply B_<;>intro h hc|apply I_;intro h
   all_goals conv=>whnf
   all_goals (unfold rV;split<;>first|rfl|omega))
def BN (k:Int):Int:=if k=0 then 0 else if k=3\/k=4 then 2 else 1
def F_EM:Fact E0:=bM 136 Proofs.Tryz.f136 rfl rfl rfl [.i] (fun k=>.ok (.i (BN k))) [] [] (by
   repeat intro _
   refine dP rfl rfl fun hk=>?_
   repeat' first|refine dM ?_|apply B_<;>intro h hc|apply I_;intro h
   all_goals conv=>whnf
   all_goals (unfold BN;split<;>(try split)<;>first|rfl|omega))
def kM (k:Int):Int:=if k=2 then 4 else if k=3 then 2 else 8
def F_Cu:Fact E0:=bM 281 Proofs.Tryz.f281 rfl rfl rfl [.i] (fun k=>.ok (.i (kM k))) [] [] (by
   repeat intro _
   refine dP rfl rfl fun hk=>?_
   repeat' first|refine dM ?_|apply B_<;>intro h hc|apply I_;intro h
   all_goals conv=>whnf
   all_goals (unfold kM;split<;>(try split)<;>first|rfl|omega))
theorem Pb {p:Nat->Bool} {n k:Nat} (hk:k<n) (h:p k=false):(List.range n).all p=false:=List.all_eq_false.2 ⟨k,List.mem_range.2 hk,by rw [h];decide⟩
theorem O9 {p:Nat->Bool} {n:Nat} (h:∀ j,j<n->p j=true):(List.range n).all p=true:=List.all_eq_true.2 fun j hj=>h j (List.mem_range.1 hj)
theorem all_s {p:Nat->Bool} {k:Nat} (h:∀ j,j<k->p j=true) (h1:p k=true):∀ j,j<k+1->p j=true:=fun j hj=>by
 rcases Nat.lt_succ_iff_lt_or_eq.1 hj with hj|rfl
 ·exact h j hj
 ·exact h1
def nmB (b:UInt8):Bool:=!(decide (b<UInt8.ofNat 33)||decide (UInt8.ofNat 126<b))
def YS (s:ByteArray) (j:Nat):Bool:=nmB (rz s j)
def jK (s:ByteArray):Bool:=(List.range s.size).all (YS s)&&(!decide (s=⟨#[]⟩)&&decide ((s.size:Int)<=64))
def M5:Fact E0:=bM 269 Proofs.Tryz.f269 rfl rfl rfl [.i,.i] (fun a b=>.ok (.b (decide (0<=a)&&decide (a<b)))) [] [] kI
def WC:Fact E0:=bM 209 Proofs.Tryz.f209 rfl rfl rfl [.s] (fun s=>.ok (.b (jK s))) [] [] (by
   intro s;refine dP rfl rfl fun hk=>?_
   simp only [know]at hk
   repeat' first|refine dM ?_|apply B_<;>intro h hc|apply I_;intro h
   all_goals conv=>whnf
   refine Or.inl ⟨Nat,0,[],[0,4,5],fun k=>[(6,.i k)],fun _=>[],[],fun k=>k<=s.size/\∀ j,j<k->(YS s) j=true,fun k=>s.size-k,0,⟨Nat.zero_le _,fun j hj=>absurd hj (Nat.not_lt_zero _)⟩,?_,fun k ⟨hkl,hok⟩=>?_⟩
   ·repeat' (
             conv=>whnf
             first|exact trivial|exact rfl|exact Or.inl rfl|exact Or.inr rfl|exact Or.inr (Or.inl rfl)|refine And.intro ?_ ?_)
    all_goals conv=>whnf
   ·repeat' first|refine dM ?_|apply B_<;>intro h hc|apply I_;intro h
    all_goals conv=>whnf
    ·have hf:YS s k=false:=by
       simp only [YS,nmB,bs];exact h
     rw [jK,Pb au hf];rfl
    ·refine⟨k+1,⟨au,all_s hok ?_⟩,by show s.size-(k+1)<s.size-k;omega,?_⟩
     ·simp only [YS,nmB,bs];assumption
     ·repeat' (
               conv=>whnf
               first|exact trivial|exact rfl|exact Or.inl rfl|exact Or.inr rfl|exact Or.inr (Or.inl rfl)|refine And.intro ?_ ?_)
      all_goals conv=>whnf
    ·have e:k=s.size:=by omega
     subst e
     rw [jK,O9 hok];rfl)
def TR (b:UInt8):Bool:=!(decide (b<UInt8.ofNat 32)||decide (UInt8.ofNat 126<b)||decide (b=UInt8.ofNat 34)||decide (b=UInt8.ofNat 92))
def HZ (s:ByteArray) (j:Nat):Bool:=TR (rz s j)
def Gv (s:ByteArray):Bool:=(List.range s.size).all (HZ s)&&(!decide (s=⟨#[]⟩)&&decide ((s.size:Int)<=64))
def F_Bz:Fact E0:=bM 298 Proofs.Tryz.f298 rfl rfl rfl [.s] (fun s=>.ok (.b (Gv s))) [] [] (by
   intro s;refine dP rfl rfl fun hk=>?_
   simp only [know]at hk
   repeat' first|refine dM ?_|apply B_<;>intro h hc|apply I_;intro h
   all_goals conv=>whnf
   refine Or.inl ⟨Nat,0,[],[0,4,5],fun k=>[(6,.i k)],fun _=>[],[],fun k=>k<=s.size/\∀ j,j<k->(HZ s) j=true,fun k=>s.size-k,0,⟨Nat.zero_le _,fun j hj=>absurd hj (Nat.not_lt_zero _)⟩,?_,fun k ⟨hkl,hok⟩=>?_⟩
   ·repeat' (
             conv=>whnf
             first|exact trivial|exact rfl|exact Or.inl rfl|exact Or.inr rfl|exact Or.inr (Or.inl rfl)|refine And.intro ?_ ?_)
    all_goals conv=>whnf
   ·repeat' first|refine dM ?_|apply B_<;>intro h hc|apply I_;intro h
    all_goals conv=>whnf
    ·have hf:HZ s k=false:=by
       simp only [HZ,TR,bs];exact h
     rw [Gv,Pb au hf];rfl
    ·refine⟨k+1,⟨au,all_s hok ?_⟩,by show s.size-(k+1)<s.size-k;omega,?_⟩
     ·simp only [HZ,TR,bs];assumption
     ·repeat' (
               conv=>whnf
               first|exact trivial|exact rfl|exact Or.inl rfl|exact Or.inr rfl|exact Or.inr (Or.inl rfl)|refine And.intro ?_ ?_)
      all_goals conv=>whnf
    ·have e:k=s.size:=by omega
     subst e
     rw [Gv,O9 hok];rfl)
end
end Go.SX
