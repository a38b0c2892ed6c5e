/- A part of the proof (texts B49, B79, B80). -/
import Derived.Test.YtpndeclljmdjkaaGreatDoorP08
import Derived.Test.YtpndeclljmdjkaaGreatDoorP10
import Derived.Test.YtpndeclljmdjkaaGreatDoorP12
import Derived.Test.YtpndeclljmdjkaaGreatDoorP14
set_option linter.all false
set_option maxRecDepth 100000
namespace Go.SX
open List renaming length -> ln
open Go.XK Go.RowKit
set_option maxHeartbeats 40000000
abbrev g64 (l:Li 5) (k:Nat):UInt64:=gt 5 l k
def rotS (x:UInt64) (k:Int):UInt64:=Fy x ((UInt64.ofInt k &&& UInt64.ofNat 63).toNat:Int) ||| iI x ((UInt64.ofNat 64-(UInt64.ofInt k &&& UInt64.ofNat 63)).toNat:Int)
abbrev m5 (a:Int):Int:=a.tmod 5
theorem Zc {a:Int} (h:0<=a):0<=a.tmod 5/\a.tmod 5<5:=by
 rw [Int.tmod_eq_emod_of_nonneg h];exact⟨au,au⟩
theorem dm5_b {a:Int} (h:0<=a):0<=a.tmod 5/\a.tmod 5<5/\0<=a.tdiv 5/\a=5*a.tdiv 5+a.tmod 5:=by
 rw [Int.tmod_eq_emod_of_nonneg h,Int.tdiv_eq_ediv_of_nonneg h];exact⟨au,au,au,au⟩
def JB (l:Li 5) (k:Nat) (x:UInt64):Li 5:=List.set (α:=ah 5) l k x
def ppI (a p:Li 5) (i:Nat):Li 5:=JB p (m5 i).toNat (g64 p (m5 i).toNat ^^^ g64 a i)
def ppS (a:Li 5):Nat->Li 5
 |0=>List.replicate (α:=ah 5) 5 (0:UInt64)
 |i+1=>ppI a (ppS a i) i
def lnS (a p:Li 5) (i:Nat):UInt64:=g64 a i ^^^ (g64 p (m5 (m5 i+4)).toNat ^^^ rotS (g64 p (m5 (m5 i+1)).toNat) 1)
def bbI (a p b:Li 5) (i:Nat):Li 5:=JB b ((i:Int).tdiv 5+5*m5 (2*m5 i+3*(i:Int).tdiv 5)).toNat (rotS (lnS a p i) (gt 0 Q0 i))
def bbS (a p:Li 5):Nat->Li 5
 |0=>List.replicate (α:=ah 5) 25 (0:UInt64)
 |i+1=>bbI a p (bbS a p i) i
def aaI (b a:Li 5) (i:Nat):Li 5:=JB a i (g64 b i ^^^ (~~~ (g64 b ((i:Int)-m5 i+m5 (m5 i+1)).toNat) &&& g64 b ((i:Int)-m5 i+m5 (m5 i+2)).toNat))
def aaS (b a:Li 5):Nat->Li 5
 |0=>a
 |i+1=>aaI b (aaS b a i) i
def rdS1 (a:Li 5) (c:UInt64):Li 5:=JB (aaS (bbS a (ppS a 25) 25) a 25) 0 (g64 (aaS (bbS a (ppS a 25) 25) a 25) 0 ^^^ c)
def M9 (a:Li 5):Nat->Li 5
 |0=>a
 |k+1=>rdS1 (M9 a k) (g64 uU k)
structure Hid (p:Prop):Prop where
 out:p
theorem pm_step {l p b a:Li 5} {k:Nat} (hP:ppS (M9 l k) 25=p) (hB:bbS (M9 l k) p 25=b) (hA:aaS b (M9 l k) 25=a):JB a 0 (g64 a 0 ^^^ g64 uU k)=M9 l (k+1):=by
 subst hP hB hA;rfl
noncomputable def F_Bi:Fact E0:=bM 386 Proofs.Tryz.f386 rfl rfl rfl [.jg,.i] (fun x k=>.ok (.jg (rotS x k))) [] [] kI
theorem hc_perm {l:Li 5}:HC E0 324 1 [.loc 0 0] [(0,.vec 326 25 5 l)] (fun s H n=>s=.jm []/\H=[(0,.vec 326 25 5 (M9 l 24))]/\n=1):=by
 refine dG (DB:=[F_Bi]) (IL:=[]) (WL:=[]) (fn:=Proofs.Tryz.f324) rfl rfl rfl rfl (by unfold dA;kernel_rfl) (fun hk=>?_)
 simp only [know]at hk
 repeat' first|refine dM ?_|apply B_<;>intro h hc|apply I_;intro h
 all_goals conv=>whnf
 refine Or.inr (Or.inr ⟨[],[16],[],[0],[0,15],[],?_⟩);conv=>whnf
 refine⟨fun(s:Int×Unit) (t:Li 5×Unit)=>∃ k:Nat,s.1=k/\k<=24/\t.1=M9 l k,fun(s:Int×Unit) _=>(24-s.1).toNat,?_⟩
 conv=>whnf
 refine eZ.mk ⟨0,rfl,Nat.zero_le _,rfl⟩ bA ?_;rintro⟨(k:Int),_⟩ ⟨(tk:Li 5),_⟩ ⟨k,hk1,hk2,hS⟩;replace hk1:_=(k:Int):=hk1;subst hk1;replace hk2:k<=24:=hk2;replace hS:tk=M9 l k:=hS;subst hS;refine gK fun K hK=>?_
 by_cases hkl:k<24
 ·have hd:decide ((k:Int)<24)=true:=decide_eq_true au
  repeat' first|refine iF ?_|apply B_<;>intro h hc|apply I_;intro h
  all_goals refine iw ?_
  refine Or.inr (Or.inr ⟨[],[20],[],[1],[0,3,4,15,16,19],[],?_⟩);conv=>whnf
  refine⟨fun(s:Int×Unit) (t:Li 5×Unit)=>∃ q0:Nat,s.1=q0/\q0<=25/\t.1=ppS (M9 l k) q0,fun(s:Int×Unit) _=>(25-s.1).toNat,?_⟩
  conv=>whnf
  refine eZ.mk ⟨0,rfl,Nat.zero_le _,rfl⟩ bA ?_;rintro⟨(i:Int),_⟩ ⟨(ti:Li 5),_⟩ ⟨i,g1,g2,gS⟩;replace g1:_=(i:Int):=g1;subst g1;replace g2:i<=25:=g2;replace gS:ti=ppS (M9 l k) i:=gS;subst gS;refine gK fun Ki hKi=>?_
  by_cases il:i<25
  ·have gd:decide ((i:Int)<25)=true:=decide_eq_true au
   have w0:(0:Int)<=(i:Int):=Int.natCast_nonneg _;have w1:=dm5_b (a:=(i:Int)) w0
   repeat' first|refine iF ?_|apply B_<;>intro h hc|apply I_;intro h
   all_goals refine iw ?_
   exact⟨i+1,rfl,au,rfl⟩
  have gd:decide ((i:Int)<25)=false:=decide_eq_false au
  have ei:i=25:=by omega
  subst ei;generalize h_p:ppS (M9 l k) 25=p;replace h_p:=Hid.mk h_p
  repeat' first|refine iF ?_|apply B_<;>intro h hc|apply I_;intro h
  all_goals refine iw ?_
  refine Or.inr (Or.inr ⟨[],[35],[],[2],[0,3,4,7,15,16,34],[],?_⟩);conv=>whnf
  refine⟨fun(s:Int×Unit) (t:Li 5×Unit)=>∃ q0:Nat,s.1=q0/\q0<=25/\t.1=bbS (M9 l k) p q0,fun(s:Int×Unit) _=>(25-s.1).toNat,?_⟩
  conv=>whnf
  refine eZ.mk ⟨0,rfl,Nat.zero_le _,rfl⟩ bA ?_;rintro⟨(j:Int),_⟩ ⟨(tj:Li 5),_⟩ ⟨j,f1,f2,fS⟩;replace f1:_=(j:Int):=f1;subst f1;replace f2:j<=25:=f2;replace fS:tj=bbS (M9 l k) p j:=fS;subst fS;refine gK fun Kj hKj=>?_
  by_cases jl:j<25
  ·have fd:decide ((j:Int)<25)=true:=decide_eq_true au
   have w0:(0:Int)<=(j:Int):=Int.natCast_nonneg _;have w1:=dm5_b (a:=(j:Int)) w0;have w5:=Zc (a:=(j:Int).tmod 5+4) au
   have w6:=Zc (a:=(j:Int).tmod 5+1) au
   have w9:=Zc (a:=2*(j:Int).tmod 5+3*(j:Int).tdiv 5) au
   repeat' first|refine iF ?_|apply B_<;>intro h hc|apply I_;intro h
   all_goals refine iw ?_
   exact⟨j+1,rfl,au,rfl⟩
  have fd:decide ((j:Int)<25)=false:=decide_eq_false au
  have ej:j=25:=by omega
  subst ej;generalize h_b:bbS (M9 l k) p 25=b;replace h_b:=Hid.mk h_b
  repeat' first|refine iF ?_|apply B_<;>intro h hc|apply I_;intro h
  all_goals refine iw ?_
  refine Or.inr (Or.inr ⟨[],[75],[],[0],[0,3,7,15,16],[],?_⟩);conv=>whnf
  refine⟨fun(s:Int×Unit) (t:Li 5×Unit)=>∃ q0:Nat,s.1=q0/\q0<=25/\t.1=aaS b (M9 l k) q0,fun(s:Int×Unit) _=>(25-s.1).toNat,?_⟩
  conv=>whnf
  refine eZ.mk ⟨0,rfl,Nat.zero_le _,rfl⟩ bA ?_;rintro⟨(n:Int),_⟩ ⟨(tn:Li 5),_⟩ ⟨n,d1,d2,dS⟩;replace d1:_=(n:Int):=d1;subst d1;replace d2:n<=25:=d2;replace dS:tn=aaS b (M9 l k) n:=dS;subst dS;refine gK fun Kn hKn=>?_
  by_cases nl:n<25
  ·have dd:decide ((n:Int)<25)=true:=decide_eq_true au
   have w0:(0:Int)<=(n:Int):=Int.natCast_nonneg _;have w1:=dm5_b (a:=(n:Int)) w0;have w6:=Zc (a:=(n:Int).tmod 5+1) au
   have w7:=Zc (a:=(n:Int).tmod 5+2) au
   repeat' first|refine iF ?_|apply B_<;>intro h hc|apply I_;intro h
   all_goals refine iw ?_
   exact⟨n+1,rfl,au,rfl⟩
  have dd:decide ((n:Int)<25)=false:=decide_eq_false au
  have en:n=25:=by omega
  subst en;generalize h_a:aaS b (M9 l k) 25=a;replace h_a:=Hid.mk h_a
  repeat' first|refine iF ?_|apply B_<;>intro h hc|apply I_;intro h
  all_goals refine iw ?_
  exact⟨k+1,rfl,au,(pm_step h_p.out h_b.out h_a.out).symm▸rfl⟩
 have hd:decide ((k:Int)<24)=false:=decide_eq_false au
 have ek:k=24:=by omega
 subst ek
 repeat' first|refine iF ?_|apply B_<;>intro h hc|apply I_;intro h
 all_goals refine iw ?_
 refine⟨[],[],_,_,[],⟨rfl,rfl,rfl⟩,?_⟩
 conv=>whnf
 refine w_ ?_;repeat' (first|((with_reducible apply And.intro)<;>(first|(with_reducible refine iK ?_;apply rfl)|(with_reducible refine eY ?_;apply rfl)|(refine w_ ?_)))|(with_reducible apply trivial)|apply rfl|apply(Or.inl rfl)|apply(Or.inr rfl)|apply(Or.inr (Or.inl rfl))|apply trivial|(apply And.intro<;>(refine w_ ?_)))
def abI (s:ByteArray) (l:Li 5) (k:Nat):Li 5:=JB l ((k:Int).tdiv 8).toNat (g64 l ((k:Int).tdiv 8).toNat ^^^ Fy (UInt64.ofNat (rz s k).toNat) (8*(k:Int).tmod 8))
def abP (s:ByteArray) (l:Li 5):Nat->Li 5
 |0=>l
 |k+1=>abI s (abP s l k) k
def abS (s:ByteArray) (l:Li 5):Li 5:=M9 (abP s l s.size) 24
theorem dm8_b {a:Int} (h:0<=a):0<=a.tmod 8/\a.tmod 8<8/\0<=a.tdiv 8/\a=8*a.tdiv 8+a.tmod 8:=by
 rw [Int.tmod_eq_emod_of_nonneg h,Int.tdiv_eq_ediv_of_nonneg h];exact⟨au,au,au,au⟩
theorem Ka {l:Li 5} {s:ByteArray} (hs:s.size<=200):HC E0 237 1 [.loc 0 0,.str s] [(0,.vec 326 25 5 l)] (fun v H n=>v=.jm []/\H=[(0,.vec 326 25 5 (abS s l))]/\n=1):=by
 refine dG (DB:=[]) (IL:=[]) (WL:=[]) (fn:=Proofs.Tryz.f237) rfl rfl rfl rfl (by unfold dA;kernel_rfl) (fun hk=>?_)
 simp only [know]at hk
 repeat' first|refine dM ?_|apply B_<;>intro h hc|apply I_;intro h
 all_goals conv=>whnf
 refine Or.inr (Or.inr ⟨[],[7],[],[0],[0,1,6],[],?_⟩);conv=>whnf
 refine⟨fun(s0:Int×Unit) (t:Li 5×Unit)=>∃ q0:Nat,s0.1=q0/\q0<=s.size/\t.1=abP s l q0,fun(s0:Int×Unit) _=>((s.size:Int)-s0.1).toNat,?_⟩
 conv=>whnf
 refine eZ.mk ⟨0,rfl,Nat.zero_le _,rfl⟩ bA ?_;rintro⟨(k:Int),_⟩ ⟨(tk:Li 5),_⟩ ⟨k,hk1,hk2,hS⟩;replace hk1:_=(k:Int):=hk1;subst hk1;replace hk2:k<=s.size:=hk2;replace hS:tk=abP s l k:=hS;subst hS;refine gK fun K hK=>?_
 by_cases hkl:k<s.size
 ·have hd:decide ((k:Int)<(s.size:Nat))=true:=decide_eq_true au
  have w0:(0:Int)<=(k:Int):=Int.natCast_nonneg _;have w1:=dm8_b w0
  repeat' first|refine iF ?_|apply B_<;>intro h hc|apply I_;intro h
  all_goals refine iw ?_
  exact⟨k+1,rfl,hkl,rfl⟩
 have hd:decide ((k:Int)<(s.size:Nat))=false:=decide_eq_false au
 have ek:k=s.size:=by omega
 subst ek
 repeat' first|(refine jU ?_;first|refine bO bK trivial ?_|(refine Or.inl ⟨_,_,_,_,[0],hc_perm , rfl,rfl,rfl,rfl,rfl,(aK trivial),?_⟩;(rintro _ _ _ ⟨rfl,rfl,rfl⟩;refine aK (aK ?_))))|apply B_<;>intro h hc|apply I_;intro h
 all_goals refine iw ?_
 refine⟨[],[],_,_,[],⟨rfl,rfl,rfl⟩,?_⟩
 conv=>whnf
 refine w_ ?_;repeat' (first|((with_reducible apply And.intro)<;>(first|(with_reducible refine iK ?_;apply rfl)|(with_reducible refine eY ?_;apply rfl)|(refine w_ ?_)))|(with_reducible apply trivial)|apply rfl|apply(Or.inl rfl)|apply(Or.inr rfl)|apply(Or.inr (Or.inl rfl))|apply trivial|(apply And.intro<;>(refine w_ ?_)))
theorem Bo {α:Type} {l r:List α} {lo hi:Nat} (h1:lo<=hi) (h2:hi<=l.length):(vS l lo hi r).length=l.length:=by
 unfold vS;simp;omega
abbrev dgR:List UInt8:=List.replicate (Int.toNat 136) (UInt8.ofNat 0)
abbrev dgC (x:ByteArray):List UInt8:=vS dgR 0 dgR.length x.data.toList
theorem Ug:dgR.length=136:=List.length_replicate
theorem EJ (x:ByteArray):(dgC x).length=136:=(Bo (Nat.zero_le _) (Nat.le_refl _)).trans Ug
theorem dg_y1 {x:ByteArray} (h:x.size<=135):x.size<=dgR.length-0:=by rw [Ug];omega
theorem dg_y2 {x:ByteArray} (h:x.size<=135):0<=(x.size:Int)/\(x.size:Int)<((dgC x).length:Nat):=by rw [EJ];omega
theorem dg_y3 {x:ByteArray} (h:x.size<=135) (b:UInt8):0<=(135:Int)/\(135:Int)<((List.set (dgC x) (x.size:Int).toNat b).length:Nat):=by rw [List.length_set,EJ];omega
abbrev Di (x:ByteArray):List UInt8:=List.set (List.set (dgC x) (x.size:Int).toNat (UInt8.ofNat 6)) (Int.toNat 135) ((show UInt8 from @gt 3 (List.set (dgC x) (x.size:Int).toNat (UInt8.ofNat 6)) (Int.toNat 135)) ||| UInt8.ofNat 128)
theorem dg_y4 (x:ByteArray):(Di x).length<=140737488355328:=by rw [List.length_set,List.length_set,EJ];omega
theorem dg_y5 (x:ByteArray):(ofBytes (Di x)).size<=200:=by
 have h:(ofBytes (Di x)).size=(Di x).length:=by unfold ofBytes;exact List.size_toArray ..
 rw [h,List.length_set,List.length_set,EJ];omega
def Rf (a:Li 5) (k i:Nat):UInt8:=UInt8.ofNat (iI (g64 a k) (8*(i:Int))).toNat
def ML (a:Li 5):Nat->List UInt8
 |0=>[]
 |n+1=>ML a n++[Rf a (n / 8) (n % 8)]
theorem EI (a:Li 5):∀ n,(ML a n).length=n
 |0=>rfl
 |n+1=>by rw [ML,List.length_append,EI a n];rfl
theorem dgP_pos (a:Li 5):0<@ln (ah 3) (ML a 32):=Nat.lt_of_lt_of_eq (by decide) (EI a 32).symm
theorem dgP_s {a:Li 5} {j k:Nat} {l:List UInt8} (hk:k<8) (h:l=ML a (8*j+k)):l++[Rf a j k]=ML a (8*j+(k+1)):=by
 rw [show 8*j+(k+1)=(8*j+k)+1 from rfl,ML,<- h,show(8*j+k) / 8=j by omega,show(8*j+k) % 8=k by omega]
theorem dgP_q {a:Li 5} {i j k:Nat} {l:List UInt8} (hi:i=j) (hk:k<8) (h:l=ML a (8*j+k)):l++[Rf a i k]=ML a (8*j+(k+1)):=by rw [hi];exact dgP_s hk h
theorem ex3d {α β:Type} {F m q:α×β->Prop} (a:α) {b:β} (hq:q (a,b)) (hm:m (a,b)) (hF:F (a,b)):∃ s,F s/\m s/\q s:=⟨(a,b),hF,hm,hq⟩
abbrev dgB (a:Li 5):List UInt8:=ML a 32
def dgF (s:ByteArray) (a:Li 5):ByteArray:=ofBytes (dgB (abS (ofBytes (Di s)) a))
def dgL:Nat->ByteArray->Li 5->ByteArray
 |0,s,a=>dgF s a
 |n+1,s,a=>bif decide ((136:Int)<=(s.size:Nat))then dgL n (s.extract (Int.toNat 136) (s.size:Int).toNat) (abS (s.extract (Int.toNat 0) (Int.toNat 136)) a)else dgF s a
theorem dgL_step {n:Nat} {s:ByteArray} {a:Li 5} (h:136<=s.size):dgL (n+1) s a=dgL n (s.extract (Int.toNat 136) (s.size:Int).toNat) (abS (s.extract (Int.toNat 0) (Int.toNat 136)) a):=by
 rw [dgL,decide_eq_true (show(136:Int)<=(s.size:Nat)by omega)]
 exact cond_true _ _
theorem dgL_end {n:Nat} {s:ByteArray} {a:Li 5} (h:¬ 136<=s.size):dgL n s a=dgF s a:=by
 cases n with
 |zero=>rfl
 |succ n =>
   rw [dgL,decide_eq_false (show ¬ (136:Int)<=(s.size:Nat)by omega)]
   exact cond_false _ _
def Uf (s:ByteArray):ByteArray:=dgL s.size s (List.replicate (α:=ah 5) 25 (0:UInt64))
noncomputable def F_AU:Fact E0:=bM 153 Proofs.Tryz.f153 rfl rfl rfl [.s] (fun s=>.ob ((s.size:Int)<=140737488355328) (.str (Uf s))) [] [] (by
   intro s;refine fD rfl rfl fun hb hk=>?_
   simp only [know]at hk;obtain⟨L,hL⟩:∃ L,Hid (L=Uf s):=⟨_,⟨rfl⟩⟩;rw [<- hL.out]
   repeat' first|refine dM ?_|apply B_<;>intro h hc|apply I_;intro h
   all_goals conv=>whnf
   refine Or.inr (Or.inr ⟨[],[0],[],[0],[3],[],?_⟩);conv=>whnf
   refine⟨fun(x:ByteArray×Unit) (t:Li 5×Unit)=>x.1.size<=140737488355328/\∃ n:Nat,x.1.size<=n/\Hid (L=dgL n x.1 t.1),fun(x:ByteArray×Unit) _=>x.1.size,?_⟩
   conv=>whnf
   refine eZ.mk ⟨by show s.size<=_;omega,s.size,Nat.le_refl _,hL⟩ bA ?_
   rintro⟨(x:ByteArray),_⟩ ⟨(a:Li 5),_⟩ ⟨hx,n,hn,hS⟩;replace hx:x.size<=140737488355328:=hx;replace hn:x.size<=n:=hn;replace hS:Hid (L=dgL n x a):=hS;refine gK fun K hK=>?_
   by_cases hkl:136<=x.size
   ·have hd:decide ((136:Int)<=(x.size:Nat))=true:=decide_eq_true au
    obtain⟨n,rfl⟩:∃ q,n=q+1:=⟨n-1,au⟩
    have z1:(x.extract (Int.toNat 0) (Int.toNat 136)).size<=200:=by rw [ByteArray.size_extract];show min 136 _-0<=200;omega
    have z2:(x.extract (Int.toNat 136) (x.size:Int).toNat).size=x.size-136:=by rw [ByteArray.size_extract,Int.toNat_natCast,Nat.min_self];rfl
    have z3:(x.extract (Int.toNat 136) (x.size:Int).toNat).size<x.size:=by omega
    clear z2;have hS9:Hid (L=dgL n (x.extract (Int.toNat 136) (x.size:Int).toNat) (abS (x.extract (Int.toNat 0) (Int.toNat 136)) a)):=⟨hS.out.trans (dgL_step (a:=a) hkl)⟩
    repeat' first|(refine jU ?_;refine KF.mk ?_ (z3) bA)|(refine jU ?_;first|refine bO bK trivial ?_|(refine Or.inl ⟨_,_,_,_,[0],Ka z1,rfl,rfl,rfl,rfl,rfl,(aK trivial),?_⟩;(rintro _ _ _ ⟨rfl,rfl,rfl⟩;refine aK (aK ?_))))|apply B_<;>intro h hc|apply I_;intro h
    all_goals refine iw ?_
    dsimp only;exact⟨au,n,au,hS9⟩
   have hd:decide ((136:Int)<=(x.size:Nat))=false:=decide_eq_false au
   have hx5:x.size<=135:=by omega
   have y1:=dg_y1 hx5;have y2:=dg_y2 hx5;have y3:=dg_y4 x;have y4:=dg_y5 x
   repeat' first|(refine jU ?_;first|(apply aP;focus (first|exact dg_y3 hx5 _|exact y1|exact y2|exact y3))|refine bO bK trivial ?_|(refine Or.inl ⟨_,_,_,_,[0],Ka y4,rfl,rfl,rfl,rfl,rfl,(aK trivial),?_⟩;(rintro _ _ _ ⟨rfl,rfl,rfl⟩;refine aK (aK ?_))))|apply B_<;>intro h hc|apply I_;intro h
   all_goals refine iw ?_
   generalize hA2:abS (ofBytes (Di x)) a=A2;replace hA2:=Hid.mk hA2;refine Or.inr (Or.inl ⟨1,?_⟩);conv=>whnf
   repeat' first|refine iF ?_|apply B_<;>intro h hc|apply I_;intro h
   all_goals refine iw ?_
   refine Or.inr (Or.inl ⟨1,?_⟩);conv=>whnf
   repeat' first|(refine jU ?_;first|refine bO bK trivial ?_|(refine Or.inl ⟨_,_,_,_,[2],hc_wb0 , rfl,rfl,rfl,rfl,rfl,(aK trivial),?_⟩;(rintro _ _ _ ⟨rfl,rfl,rfl⟩;refine aK (aK ?_))))|apply B_<;>intro h hc|apply I_;intro h
   all_goals refine iw ?_
   refine⟨Int×Li 3,1,[],[5,7,33,34,35],fun s=>[(39,.i s.1)],fun s=>[(2,.row Jr [.loc 2 0,.bT 4]),(4,.arr 5 none 3 s.2)],[3],fun s=>∃ k:Nat,s.1=k/\k<=8/\Hid (s.2=ML A2 (8*0+k)),fun s=>(8-s.1).toNat,(1,ML A2 1),⟨1,rfl,by decide,⟨rfl⟩⟩,?_,?_⟩
   ·exact bA
   rintro⟨(k:Int),(acc:Li 3)⟩ ⟨k,hk1,hk2,Nc⟩;replace hk1:_=(k:Int):=hk1;subst hk1;replace hk2:k<=8:=hk2;replace Nc:Hid (acc=ML A2 (8*0+k)):=Nc;refine gK fun KI4 hKI4=>?_
   by_cases ZW:k<8
   ·have hd2:decide ((k:Int)<8)=true:=decide_eq_true au
    have hlen:@ln (ah 3) acc<=70368744177664:=by rw [Nc.out];exact Nat.le_trans (Nat.le_of_eq (EI A2 _)) au
    repeat' first|(refine jU ?_;first|refine bO bK trivial ?_|(refine Or.inl ⟨_,_,_,_,[2,4],Z0 hlen,rfl,rfl,rfl,rfl,rfl,(aK (aK trivial)),?_⟩;(rintro _ _ _ ⟨rfl,rfl,rfl⟩;refine aK (aK ?_))))|apply B_<;>intro h hc|apply I_;intro h
    all_goals refine iw ?_
    refine ex3d ((k:Int)+1) bA bg ?_
    exact⟨k+1,rfl,ZW,⟨dgP_q bg ZW Nc.out⟩⟩
   have hd2:decide ((k:Int)<8)=false:=decide_eq_false au
   obtain rfl:k=8:=by omega
   obtain⟨e⟩:=Nc;subst e
   repeat' first|refine iF ?_|apply B_<;>intro h hc|apply I_;intro h
   all_goals refine iw ?_
   refine⟨Int×Li 3,1,[],[5,33,34],fun s=>[(35,.i s.1)],fun s=>[(2,.row Jr [.loc 2 0,.bT 5]),(5,.arr 5 none 3 s.2)],[4],fun s=>∃ j:Nat,s.1=j/\j<=4/\Hid (s.2=ML A2 (8*j)),fun s=>(4-s.1).toNat,(1,ML A2 8),⟨1,rfl,by decide,⟨rfl⟩⟩,?_,?_⟩
   ·exact bA
   rintro⟨(j:Int),(bc:Li 3)⟩ ⟨j,hj1,hj2,zC⟩;replace hj1:_=(j:Int):=hj1;subst hj1;replace hj2:j<=4:=hj2;replace zC:Hid (bc=ML A2 (8*j)):=zC;obtain⟨e⟩:=zC;subst e;refine gK fun KO hKO=>?_
   by_cases hjl:j<4
   ·have hd0:decide ((j:Int)<4)=true:=decide_eq_true au
    repeat' first|refine iF ?_|apply B_<;>intro h hc|apply I_;intro h
    all_goals refine iw ?_
    refine Or.inl ⟨Int×Li 3,1,[],[5,7,33,34,35],fun s=>[(39,.i s.1)],fun s=>[(2,.row Jr [.loc 2 0,.bT 6]),(6,.arr 5 none 3 s.2)],[5],fun s=>∃ k:Nat,s.1=k/\k<=8/\Hid (s.2=ML A2 (8*j+k)),fun s=>(8-s.1).toNat,(0,ML A2 (8*j)),⟨0,rfl,by decide,⟨rfl⟩⟩,?_,?_⟩
    ·exact bA
    rintro⟨(k:Int),(acc:Li 3)⟩ ⟨k,hk1,hk2,Nc⟩;replace hk1:_=(k:Int):=hk1;subst hk1;replace hk2:k<=8:=hk2;replace Nc:Hid (acc=ML A2 (8*j+k)):=Nc;refine gK fun KI6 hKI6=>?_
    by_cases ZW:k<8
    ·have hd2:decide ((k:Int)<8)=true:=decide_eq_true au
     have hlen:@ln (ah 3) acc<=70368744177664:=by rw [Nc.out];exact Nat.le_trans (Nat.le_of_eq (EI A2 _)) au
     repeat' first|(refine jU ?_;first|refine bO bK trivial ?_|(refine Or.inl ⟨_,_,_,_,[2,6],Z0 hlen,rfl,rfl,rfl,rfl,rfl,(aK (aK trivial)),?_⟩;(rintro _ _ _ ⟨rfl,rfl,rfl⟩;refine aK (aK ?_))))|apply B_<;>intro h hc|apply I_;intro h
     all_goals refine iw ?_
     refine ex3d ((k:Int)+1) bA bg ?_
     exact⟨k+1,rfl,ZW,⟨dgP_q bg ZW Nc.out⟩⟩
    have hd2:decide ((k:Int)<8)=false:=decide_eq_false au
    obtain rfl:k=8:=by omega
    obtain⟨e⟩:=Nc;subst e
    repeat' first|refine iF ?_|apply B_<;>intro h hc|apply I_;intro h
    all_goals refine iw ?_
    refine ex3d ((j:Int)+1) bA bg ?_
    exact⟨j+1,rfl,hjl,⟨rfl⟩⟩
   have hd0:decide ((j:Int)<4)=false:=decide_eq_false au
   obtain rfl:j=4:=by omega
   repeat' first|(refine jU ?_;first|refine bO bK trivial ?_|(refine Or.inl ⟨_,_,_,_,[2,5],lG (dgP_pos A2),rfl,rfl,rfl,rfl,rfl,(aK (aK trivial)),?_⟩;(rintro _ _ _ ⟨rfl,rfl,rfl⟩;refine aK (aK ?_))))|apply B_<;>intro h hc|apply I_;intro h
   all_goals refine iw ?_
   have hL9:L=ofBytes (dgB A2):=by
     rw [<- hA2.out];exact hS.out.trans (dgL_end hkl)
   rw [hL9]
   all_goals first|exact rfl)
end Go.SX
