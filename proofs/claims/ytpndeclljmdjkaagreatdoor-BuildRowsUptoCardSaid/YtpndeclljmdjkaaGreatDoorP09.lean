/- A part of the proof (texts En, HcS, Law, Read, Read2, Glb). -/
import Derived.Carry
import Derived.Deep.Slices
import Derived.KernelRfl
import Derived.Lib.SmallJoins
import Derived.MakeChecks
import Derived.OpenShut
import Derived.ProofKit
import Derived.Test.YtpndeclljmdjkaaGreatDoorP01
import Derived.Test.YtpndeclljmdjkaaGreatDoorP02
import Derived.Test.YtpndeclljmdjkaaGreatDoorP08
import Derived.Test.YtpndeclljmdjkaaGreatDoorProg
import Derived.Test.YtpndeclljmdjkaaGreatDoorRows
set_option linter.all false
set_option maxRecDepth 100000
namespace Go.SX
open List renaming getElem?_eq_getElem -> bZ
open Go.XK Go.RowKit
theorem tY {ks:List Nat} {us vs:List Value} {r:Bool} (h:vO (1::ks) us vs=some r):∃ m n us' vs' y,us=.int .i64 m::us'/\vs=.int .i64 n::vs'/\vO ks us' vs'=some y/\r=(decide (m=n)&&y):=by
 unfold vO at h;split at h
 ·cases ‹_::_=[]›
 ·rename_i e1;cases e1;rw [Option.map_eq_some_iff]at h;obtain⟨y,h1,h2⟩:=h;exact⟨_,_,_,_,y,rfl,rfl,h1,h2.symm⟩
 ·rename_i e;cases e
 ·rename_i e;cases e
 ·cases h
theorem eqV2 {ks:List Nat} {us vs:List Value} {r:Bool} (h:vO (2::ks) us vs=some r):∃ m n us' vs' y,us=.string m::us'/\vs=.string n::vs'/\vO ks us' vs'=some y/\r=(decide (m=n)&&y):=by
 unfold vO at h;split at h
 ·cases ‹_::_=[]›
 ·rename_i e;cases e
 ·rename_i e1;cases e1;rw [Option.map_eq_some_iff]at h;obtain⟨y,h1,h2⟩:=h;exact⟨_,_,_,_,y,rfl,rfl,h1,h2.symm⟩
 ·rename_i e;cases e
 ·cases h
theorem eqV0 {us vs:List Value} {r:Bool} (h:vO [] us vs=some r):us=[]/\vs=[]/\r=true:=by
 unfold vO at h;split at h
 ·cases h;exact⟨rfl,rfl,rfl⟩
 ·rename_i e;cases e
 ·rename_i e;cases e
 ·rename_i e;cases e
 ·cases h
theorem VZ:EqT Proofs.Tryz.prog 28 [1,1,1,1]:=by
 intro us vs r h0;obtain⟨a0,b0,us0,vs0,y0,rfl,rfl,h1,rfl⟩:=tY h0;obtain⟨a1,b1,us1,vs1,y1,rfl,rfl,h2,rfl⟩:=tY h1;obtain⟨a2,b2,kJ,vs2,y2,rfl,rfl,h3,rfl⟩:=tY h2;obtain⟨a3,b3,us3,vs3,y3,rfl,rfl,h4,rfl⟩:=tY h3;obtain⟨rfl,rfl,rfl⟩:=eqV0 h4;clear h0 h1 h2 h3 h4;constructor
 ·intro x y w;simp [go_sem]
  by_cases q0:a0=b0<;>by_cases q1:a1=b1<;>by_cases q2:a2=b2<;>by_cases q3:a3=b3<;>simp [q0,q1,q2,q3]
 ·intro x y w;simp [go_sem]
  by_cases q0:a0=b0<;>by_cases q1:a1=b1<;>by_cases q2:a2=b2<;>by_cases q3:a3=b3<;>simp [q0,q1,q2,q3]
theorem eq_stub:EqT Proofs.Tryz.prog 85 [1,1,1,1]:=by
 intro us vs r h0;obtain⟨a0,b0,us0,vs0,y0,rfl,rfl,h1,rfl⟩:=tY h0;obtain⟨a1,b1,us1,vs1,y1,rfl,rfl,h2,rfl⟩:=tY h1;obtain⟨a2,b2,kJ,vs2,y2,rfl,rfl,h3,rfl⟩:=tY h2;obtain⟨a3,b3,us3,vs3,y3,rfl,rfl,h4,rfl⟩:=tY h3;obtain⟨rfl,rfl,rfl⟩:=eqV0 h4;clear h0 h1 h2 h3 h4;constructor
 ·intro x y w;simp [go_sem]
  by_cases q0:a0=b0<;>by_cases q1:a1=b1<;>by_cases q2:a2=b2<;>by_cases q3:a3=b3<;>simp [q0,q1,q2,q3]
 ·intro x y w;simp [go_sem]
  by_cases q0:a0=b0<;>by_cases q1:a1=b1<;>by_cases q2:a2=b2<;>by_cases q3:a3=b3<;>simp [q0,q1,q2,q3]
theorem eq_dyn:EqT Proofs.Tryz.prog 73 [1,1,1,1]:=by
 intro us vs r h0;obtain⟨a0,b0,us0,vs0,y0,rfl,rfl,h1,rfl⟩:=tY h0;obtain⟨a1,b1,us1,vs1,y1,rfl,rfl,h2,rfl⟩:=tY h1;obtain⟨a2,b2,kJ,vs2,y2,rfl,rfl,h3,rfl⟩:=tY h2;obtain⟨a3,b3,us3,vs3,y3,rfl,rfl,h4,rfl⟩:=tY h3;obtain⟨rfl,rfl,rfl⟩:=eqV0 h4;clear h0 h1 h2 h3 h4;constructor
 ·intro x y w;simp [go_sem]
  by_cases q0:a0=b0<;>by_cases q1:a1=b1<;>by_cases q2:a2=b2<;>by_cases q3:a3=b3<;>simp [q0,q1,q2,q3]
 ·intro x y w;simp [go_sem]
  by_cases q0:a0=b0<;>by_cases q1:a1=b1<;>by_cases q2:a2=b2<;>by_cases q3:a3=b3<;>simp [q0,q1,q2,q3]
theorem toList_iff (x y:ByteArray):x.toList=y.toList↔x=y:=by
 rw [ByteArray.toList_eq,ByteArray.toList_eq];exact⟨fun h=>ByteArray.ext (Array.toList_inj.mp h),fun h=>by rw [h]⟩
theorem eq_line:EqT Proofs.Tryz.prog 63 [1,1,2,1]:=by
 intro us vs r h0;obtain⟨a0,b0,us0,vs0,y0,rfl,rfl,h1,rfl⟩:=tY h0;obtain⟨a1,b1,us1,vs1,y1,rfl,rfl,h2,rfl⟩:=tY h1;obtain⟨a2,b2,kJ,vs2,y2,rfl,rfl,h3,rfl⟩:=eqV2 h2;obtain⟨a3,b3,us3,vs3,y3,rfl,rfl,h4,rfl⟩:=tY h3;obtain⟨rfl,rfl,rfl⟩:=eqV0 h4;clear h0 h1 h2 h3 h4;constructor
 ·intro x y w;simp [go_sem]
  by_cases q0:a0=b0<;>by_cases q1:a1=b1<;>by_cases q2:a2=b2<;>by_cases q3:a3=b3<;>simp [toList_iff,q0,q1,q2,q3]
 ·intro x y w;simp [go_sem]
  by_cases q0:a0=b0<;>by_cases q1:a1=b1<;>by_cases q2:a2=b2<;>by_cases q3:a3=b3<;>simp [toList_iff,q0,q1,q2,q3]
theorem eq_var:EqT Proofs.Tryz.prog 88 [1,1,1,2,1,1]:=by
 intro us vs r h0;obtain⟨a0,b0,us0,vs0,y0,rfl,rfl,h1,rfl⟩:=tY h0;obtain⟨a1,b1,us1,vs1,y1,rfl,rfl,h2,rfl⟩:=tY h1;obtain⟨a2,b2,kJ,vs2,y2,rfl,rfl,h3,rfl⟩:=tY h2;obtain⟨a3,b3,us3,vs3,y3,rfl,rfl,h4,rfl⟩:=eqV2 h3;obtain⟨a4,b4,us4,vs4,y4,rfl,rfl,h5,rfl⟩:=tY h4;obtain⟨a5,b5,us5,vs5,y5,rfl,rfl,h6,rfl⟩:=tY h5;obtain⟨rfl,rfl,rfl⟩:=eqV0 h6;clear h0 h1 h2 h3 h4 h5 h6;constructor
 ·intro x y w;simp [go_sem]
  by_cases q0:a0=b0<;>by_cases q1:a1=b1<;>by_cases q2:a2=b2<;>by_cases q3:a3=b3<;>by_cases q4:a4=b4<;>by_cases q5:a5=b5<;>simp [toList_iff,q0,q1,q2,q3,q4,q5]
 ·intro x y w;simp [go_sem]
  by_cases q0:a0=b0<;>by_cases q1:a1=b1<;>by_cases q2:a2=b2<;>by_cases q3:a3=b3<;>by_cases q4:a4=b4<;>by_cases q5:a5=b5<;>simp [toList_iff,q0,q1,q2,q3,q4,q5]
def eqSp:List (Nat×List Nat):=[(28,[1,1,1,1]),(85,[1,1,1,1]),(73,[1,1,1,1]),(63,[1,1,2,1]),(88,[1,1,1,2,1,1])]
theorem eqSp_ok (T:Nat) (ks:List Nat) (h:lk eqSp T=some ks):EqT Proofs.Tryz.prog T ks:=by
 have:=G8 h;simp only [eqSp,List.mem_cons,List.not_mem_nil,or_false,Prod.mk.injEq]at this;rcases this with ⟨rfl,rfl⟩|⟨rfl,rfl⟩|⟨rfl,rfl⟩|⟨rfl,rfl⟩|⟨rfl,rfl⟩
 ·exact VZ
 ·exact eq_stub
 ·exact eq_dyn
 ·exact eq_line
 ·exact eq_var
def KOK (P:Program) (T c:Nat):Prop:=jO P T (TV c)
theorem key_int:KOK Proofs.Tryz.prog 3 0:=jO.int (P:=Proofs.Tryz.prog) (kt:=3) (by kernel_rfl)
theorem key_str:KOK Proofs.Tryz.prog 9 1:=jO.str (P:=Proofs.Tryz.prog) (kt:=9) (by kernel_rfl)
theorem inf_str:∃ z b,Inf Proofs.Tryz.prog 9 z 1 b:=⟨.string .empty,16,by unfold Inf;kernel_rfl⟩
theorem Tx (T:Nat) (h:Proofs.Tryz.prog.underlying T=some (.array 2 9)):KOK Proofs.Tryz.prog T 60:=by
 obtain⟨z,b,hi⟩:=inf_str;exact jO.pair (P:=Proofs.Tryz.prog) h (by kernel_rfl) hi
theorem key_all:∀ p∈[(3,0),(9,1),(168,60),(207,60)],jO Proofs.Tryz.prog p.1 (TV p.2):=by
 intro p hp;simp only [List.mem_cons,List.not_mem_nil,or_false]at hp;rcases hp with rfl|rfl|rfl|rfl
 ·exact key_int
 ·exact key_str
 ·exact Tx _ (by kernel_rfl)
 ·exact Tx _ (by kernel_rfl)
def Q0:List Int:=[0,1,62,28,27,36,44,6,55,20,3,10,43,25,39,41,45,15,21,8,18,2,61,56,14]
def uU:List UInt64:=[1,32898,9223372036854808714,9223372039002292224,32907,2147483649,9223372039002292353,9223372036854808585,138,136,2147516425,2147483658,2147516555,9223372036854775947,9223372036854808713,9223372036854808579,9223372036854808578,9223372036854775936,32778,9223372039002259466,9223372039002292353,9223372036854808704,2147483649,9223372039002292232]
def Q5:List Iw:=[⟨⟨#[]⟩,⟨#[]⟩,⟨#[]⟩,⟨#[]⟩⟩,⟨⟨#[110,111,112]⟩,⟨#[]⟩,⟨#[]⟩,⟨#[]⟩⟩,⟨⟨#[115,97,102,101]⟩,⟨#[]⟩,⟨#[]⟩,⟨#[]⟩⟩,⟨⟨#[115,101,116]⟩,⟨#[65,73]⟩,⟨#[]⟩,⟨#[65]⟩⟩,⟨⟨#[104,105,103,104]⟩,⟨#[65,73]⟩,⟨#[65]⟩,⟨#[65]⟩⟩,⟨⟨#[109,111,118,101]⟩,⟨#[65,66]⟩,⟨#[66]⟩,⟨#[65]⟩⟩,⟨⟨#[97,100,100]⟩,⟨#[65,66,67]⟩,⟨#[66,67]⟩,⟨#[65]⟩⟩,⟨⟨#[115,117,98]⟩,⟨#[65,66,67]⟩,⟨#[66,67]⟩,⟨#[65]⟩⟩,⟨⟨#[109,117,108]⟩,⟨#[65,66,67]⟩,⟨#[66,67]⟩,⟨#[65]⟩⟩,⟨⟨#[97,110,100]⟩,⟨#[65,66,67]⟩,⟨#[66,67]⟩,⟨#[65]⟩⟩,⟨⟨#[111,114]⟩,⟨#[65,66,67]⟩,⟨#[66,67]⟩,⟨#[65]⟩⟩,⟨⟨#[108,101,115,115]⟩,⟨#[65,66,67]⟩,⟨#[66,67]⟩,⟨#[65]⟩⟩,⟨⟨#[115,97,109,101]⟩,⟨#[65,66,67]⟩,⟨#[66,67]⟩,⟨#[65]⟩⟩,⟨⟨#[97,100,100,105]⟩,⟨#[65,66,73]⟩,⟨#[66]⟩,⟨#[65]⟩⟩,⟨⟨#[97,100,100,114]⟩,⟨#[65,73]⟩,⟨#[]⟩,⟨#[65]⟩⟩,⟨⟨#[108,111,97,100]⟩,⟨#[65,66,73]⟩,⟨#[66]⟩,⟨#[65]⟩⟩,⟨⟨#[98,121,116,101]⟩,⟨#[65,66,73]⟩,⟨#[66]⟩,⟨#[65]⟩⟩,⟨⟨#[115,116,111,114,101]⟩,⟨#[65,66,73]⟩,⟨#[65,66]⟩,⟨#[]⟩⟩,⟨⟨#[112,117,116]⟩,⟨#[65,66,73]⟩,⟨#[65,66]⟩,⟨#[]⟩⟩,⟨⟨#[106,117,109,112]⟩,⟨#[73]⟩,⟨#[]⟩,⟨#[]⟩⟩,⟨⟨#[122,101,114,111]⟩,⟨#[65,73]⟩,⟨#[65]⟩,⟨#[]⟩⟩,⟨⟨#[110,111,110,122,101,114,111]⟩,⟨#[65,73]⟩,⟨#[65]⟩,⟨#[]⟩⟩,⟨⟨#[99,97,108,108]⟩,⟨#[73]⟩,⟨#[83]⟩,⟨#[83]⟩⟩,⟨⟨#[99,97,108,108,114]⟩,⟨#[65]⟩,⟨#[65,83]⟩,⟨#[83]⟩⟩,⟨⟨#[99,97,108,108,115]⟩,⟨#[73]⟩,⟨#[83]⟩,⟨#[83]⟩⟩,⟨⟨#[106,117,109,112,115]⟩,⟨#[73]⟩,⟨#[]⟩,⟨#[]⟩⟩,⟨⟨#[114,101,116,117,114,110]⟩,⟨#[]⟩,⟨#[83]⟩,⟨#[83]⟩⟩,⟨⟨#[112,117,115,104]⟩,⟨#[65]⟩,⟨#[65,83]⟩,⟨#[83]⟩⟩,⟨⟨#[112,111,112]⟩,⟨#[65]⟩,⟨#[83]⟩,⟨#[65,83]⟩⟩,⟨⟨#[116,108,115]⟩,⟨#[65,66]⟩,⟨#[66]⟩,⟨#[65]⟩⟩,⟨⟨#[115,121,115]⟩,⟨#[73]⟩,⟨#[]⟩,⟨#[]⟩⟩]
def oJ:List oh:=[⟨0,8,[]⟩,⟨0,8,[]⟩,⟨0,4,[]⟩,⟨0,2,[]⟩,⟨0,8,[]⟩,⟨4,4,[14,19,20,21]⟩,⟨4,4,[22]⟩,⟨4,4,[24,25]⟩,⟨4,4,[3]⟩,⟨4,4,[4]⟩,⟨4,4,[13,3]⟩,⟨0,8,[]⟩,⟨0,8,[]⟩]
def gVars:Nat->Option SV
 |0=>some (.lH 54 13 oJ)
 |1=>some (.lH 76 31 Q5)
 |2=>some (.lH 5 24 uU)
 |3=>some (.lH 0 25 Q0)
 |_=>none
def mtL:List (Nat×String×FuncId×Option TypeId):=[(431, "Len", 443,some 432),(431, "Less", 444,some 432),(431, "Swap", 447,some 432),(431, "Push", 446,none),(431, "Pop", 445,none)]
theorem tX:Proofs.Tryz.prog.underlying 431=some (.pointer 432):=by kernel_rfl
theorem mtL_ok:∀ p∈mtL,IU Proofs.Tryz.prog p.1 p.2.1 p.2.2.1 p.2.2.2:=by
 intro p hp;simp only [mtL,List.mem_cons,List.not_mem_nil,or_false]at hp;rcases hp with rfl|rfl|rfl|rfl|rfl
 ·exact GR (by kernel_rfl) tX
 ·exact GR (by kernel_rfl) tX
 ·exact GR (by kernel_rfl) tX
 ·exact N9 (by kernel_rfl) tX
 ·exact N9 (by kernel_rfl) tX
noncomputable def E0:En:=mkEn Proofs.Tryz.prog Xx eqSp [(3,0),(9,1),(168,60),(207,60)] mtL gVars PY eqSp_ok key_all (by kernel_rfl) mtL_ok
section
variable {E:En}
theorem V8 {DB:List (Fact E)} {IL:List (je E)} {WL:List (Wk E)} {n:Nat} {args:List SV} {H:List (Nat×HB)} {R:SV->List (Nat×HB)->Nat->Prop} {f:FuncId} {fn:Func} {c:Code} {N:Nat} (hf:E.P.funcs[f]?=some fn) (hb:fn.body=some c) (hN:fn.ntmps=N) (hl:Nat.ble (len args) N=true) (hfn:dA E.P f)
   (h:know args->kV (OT args H n) fun σ=>vc E (QC DB WL IL) N c σ (Qi E fn.results.toList fun s σ=>retH n R (wz σ s).2 (wz σ s).1)):HC E f n args H R:=by
 refine⟨hfn,fun m ids vs hG hm hn hH hv=>?_⟩
 have h0:=h (AY hv);rw [iL]at h0;refine(xJ hm hG hn hH hv hf hb hN hl h0).mono fun e w' ⟨v,σ,S,aO,a,s',he,hS,hd,fs,nl,s2,H2,r,hR,hle⟩=>?_
 rw [iL]at hle;obtain⟨hle,hmt⟩:=hle;obtain⟨Ec,hS,hd,_⟩:=x9 hS hd;obtain⟨zT,S1,k1,k2,k3⟩:=Er nl hS;have hd:=k3 _ _ hd;obtain⟨S',h1,h2⟩:=k1.oZ fs;obtain⟨Da,h3,hrr⟩:=GY h2 rfl rfl hmt;have hlen:Da.length=n+len r:=h3.len;have hmod:=h3.mod;refine⟨v,S',Da,s2,H2,he,by rw [hlen];exact hR,hmod,⟨fun b hb=>⟨h3.S0 b hb,hmod.block b (hm b hb) fun⟨i,hb0,hi,hf0⟩=>hH.vG i hb0 b hi hf0 hb⟩,hmod.size⟩,h3.S,fun i hi=>h3.pre i hi,au,h3.heap,fun b ⟨i,hb0,hi,hf0⟩=>h3.low i hb0 b hi hf0,?_⟩
 exact Den.kN hrr s2 (CQ _ _ hle (BI h2 (Den.le h1 _ hd)))
end
end Go.SX
namespace Go.XK
open List renaming getElem?_eq_getElem -> bZ
open Go.RowKit Go.ChangeShapes Go.WideShapes Go.ChangeAt
section
variable {H:Type} {enc:TypeId×Value->H} {P:Program}
theorem yQ (hl:laidOutB P=true) {W W':World} (hb:Ext W W'):∀ (ts:List TypeId) (vs:List Value) (ds:List (DataW H)) (ps:List MemPlace),
   ts.all (fun t=>P.readableRec t&&Nat.blt t P.types.size)=true->DataW.TrodAll enc P W 0 (fun _=>true) true ts vs ds ps->(∀ x∈ps,x.block<W.heap.size) ->
   DataW.TrodAll enc P W' 0 (fun b=>decide (b<W.heap.size)) true ts vs ds ps
 |[],_,_,_,_,h,_=>by
   obtain⟨rfl,rfl,rfl⟩:=trodAll_nil h;exact trodAll_mk0
 |t::ts,vs,ds,ps,hr,h,hlt=>by
   obtain⟨v,vs',d,ds',p,q,rfl,rfl,rfl,h1,h2⟩:=trodAll_cons h;simp only [List.all_cons,Bool.and_eq_true]at hr
   exact trodAll_cons_mk (Below.trod hl hr.1.1 (by simpa using hr.1.2) h1 hb fun x hx=>hlt x (List.mem_append.2 (.inl hx)))
     (yQ hl hb ts vs' ds' q hr.2 h2 fun x hx=>hlt x (List.mem_append.2 (.inr hx)))
theorem trodAll_length {W:World} {base:Nat} {sp:Nat->Bool} {held:Bool}:∀ (ts:List TypeId) (vs:List Value) (ds:List (DataW H)) (ps:List MemPlace),DataW.TrodAll enc P W base sp held ts vs ds ps->ds.length=ts.length
 |[],_,_,_,h=>by
   obtain⟨_,rfl,_⟩:=trodAll_nil h;rfl
 |t::ts,_,_,_,h=>by
   obtain⟨v,vs',d,ds',p,q,_,rfl,_,_,h2⟩:=trodAll_cons h;simp [trodAll_length ts vs' ds' q h2]
end
theorem Tn {α:Type} {Q:Nat->α->Prop}:∀ n:Nat,(∀ i,i<n->∃ x,Q i x)->∃ l:List α,l.length=n/\∀ i (h:i<l.length),Q i l[i]
 |0,_=>⟨[],rfl,fun i h=>absurd h (Nat.not_lt_zero i)⟩
 |n+1,h=>by
   obtain⟨l,hl,hq⟩:=Tn n fun i hi=>h i (Nat.lt_succ_of_lt hi)
   obtain⟨x,hx⟩:=h n (Nat.lt_succ_self n);refine⟨l++[x],by simp [hl],fun i hi=>?_⟩
   rw [List.getElem_append];split
   ·exact hq i (by assumption)
   ·have:i=n:=by simp at hi;omega
    subst this;simpa [hl] using hx
end Go.XK
namespace Go.SX
open List renaming getElem?_eq_getElem -> bZ
open Go.XK Go.RowKit Go.ChangeShapes Go.WideShapes
def Pv (W:World):Mm:=⟨W,fun b=>b<W.heap.size⟩
theorem DL.append {m:Mm}:∀ {a b:List CP} {us vs:List Value},DL a m us->DL b m vs->DL (a++b) m (us++vs)
 |[],_,_,_,h,k=>by rw [DL]at h;subst h;exact k
 |_::_,_,_,_,⟨u,us',h1,h2,h3⟩,k=>⟨u,us'++_,by rw [h1];rfl,h2,DL.append h3 k⟩
theorem DL.field {a r:List CP} {m:Mm} {cs:List Value} {o k:Nat} (h:DL a m ((cs.drop o).take k)) (h2:DL r m (cs.drop (o+k))):DL (a++r) m (cs.drop o):=by
 have e:cs.drop o=(cs.drop o).take k++cs.drop (o+k):=by rw [<- List.drop_drop,List.take_append_drop]
 rw [e];exact h.append h2
theorem DL.last {m:Mm} {cs:List Value} {K:Nat} (h:cs.length=K):DL [] m (cs.drop K):=by rw [DL,<- h,List.drop_length]
abbrev bulk {H:Type} (d:DataW H):Nat:=Go.Proofs.YtpndeclljmdjkaaGreatDoor.Rows.uptoBulk d
abbrev xK {H:Type} (l:List (DataW H)):Nat:=Go.Proofs.YtpndeclljmdjkaaGreatDoor.Rows.uptoBulkAll l
theorem Bp {H:Type} (d:DataW H):1<=bulk d:=by
 cases d with
 |lit l=>cases l<;>simp [bulk,Go.Proofs.YtpndeclljmdjkaaGreatDoor.Rows.uptoBulk]
 |_=>simp [bulk,Go.Proofs.YtpndeclljmdjkaaGreatDoor.Rows.uptoBulk]
theorem qz {H:Type} {d:DataW H} {l:List (DataW H)} (h:d∈l):bulk d<=xK l:=by
 induction l with
 |nil=>cases h
 |cons x r ih =>
   simp only [xK,Go.Proofs.YtpndeclljmdjkaaGreatDoor.Rows.uptoBulkAll];rcases List.mem_cons.1 h with e|e
   ·subst e;exact Nat.le_add_right _ _
   ·exact Nat.le_trans (ih e) (Nat.le_add_left _ _)
theorem Dl {H:Type} (l:List (DataW H)):xK l=(l.map bulk).sum:=by
 induction l with
 |nil=>rfl
 |cons x r ih=>simp only [xK,Go.Proofs.YtpndeclljmdjkaaGreatDoor.Rows.uptoBulkAll,List.map_cons,List.sum_cons]at ih ⊢;rw [ih]
theorem bulk_len {H:Type} (l:List (DataW H)):l.length<=xK l:=by
 induction l with
 |nil=>simp [xK,Go.Proofs.YtpndeclljmdjkaaGreatDoor.Rows.uptoBulkAll]
 |cons x r ih =>
   have:=Bp x;simp only [xK,bulk,Go.Proofs.YtpndeclljmdjkaaGreatDoor.Rows.uptoBulkAll,List.length_cons]at ih this ⊢;omega
section
variable {H:Type} (enc:TypeId×Value->H) (P:Program) (W:World) (base:Nat)
def IE (T:TypeId) {α:Type} (K:Nat) (D:α->List CP) (Q:α->Nat->Prop):Prop :=
 ∀ (held:Bool) (n:Nat) (cs:List Value) (x:DataW H×List MemPlace),cs.length=K->DataW.trod enc P W base (fun _=>true) held n T cs=some x->bulk x.1<=1048576->∃ y,DL (D y) (Pv W) cs/\Q y (bulk x.1)
def QT {α:Type} (_:α) (_:Nat):Prop:=True
def QS (s:ByteArray) (N:Nat):Prop:=s.size+1<=N
def QL {α:Type} (Q:α->Nat->Prop) (l:List α) (N:Nat):Prop:=∃ ns:List Nat,ns.length=l.length/\ns.sum+1<=N/\∀ (i:Nat) (h:i<l.length) (h':i<ns.length),Q l[i] ns[i]/\1<=ns[i]
variable {enc P W base}
theorem QS.mono {s:ByteArray} {n m:Nat} (h:QS s n) (k:n+1<=m):QS s m:=by unfold QS at *;omega
theorem QL.mono {α:Type} {Q:α->Nat->Prop} {l:List α} {n m:Nat} (h:QL Q l n) (k:n+1<=m):QL Q l m:=by
 obtain⟨ns,h1,h2,h3⟩:=h;exact⟨ns,h1,au,h3⟩
theorem QT.mono {α:Type} {y:α} {n m:Nat} (_:QT y n) (_:n+1<=m):QT y m:=trivial
theorem dz {T:TypeId} (hT:P.underlying T=some (.int .i64)):IE enc P W base T 1 (fun y=>[CP.int y]) QT:=by
 intro held n cs x _ h _;obtain⟨k,rfl,_,hw⟩:=DataW.trod_int hT h;simp only [Lit.wf,Bool.and_eq_true,decide_eq_true_eq]at hw;exact⟨k,⟨_,_,rfl,⟨rfl,hw⟩,rfl⟩,trivial⟩
theorem El {T:TypeId} (hT:P.underlying T=some .bool):IE enc P W base T 1 (fun y=>[CP.bool y]) QT:=by
 intro held n cs x _ h _;obtain⟨k,rfl,_⟩:=DataW.trod_bool hT h;exact⟨k,⟨_,_,rfl,rfl,rfl⟩,trivial⟩
theorem kr {T:TypeId} (hT:P.underlying T=some .string):IE enc P W base T 1 (fun y=>[CP.str y]) QS:=by
 intro held n cs x _ h hb;obtain⟨s,rfl,rfl,_⟩:=DataW.trod_string hT h
 have e:bulk (DataW.lit (H:=H) (.string s.data.toList))=s.size+1:=by
   show Go.Proofs.YtpndeclljmdjkaaGreatDoor.Rows.uptoBulk _=_;rw [Go.Proofs.YtpndeclljmdjkaaGreatDoor.Rows.uptoBulk];rfl
 refine⟨s,⟨_,_,rfl,⟨rfl,?_⟩,rfl⟩,by show s.size+1<=bulk (DataW.lit (H:=H) (.string s.data.toList));omega⟩
 have:bulk (DataW.lit (H:=H) (.string s.data.toList))<=1048576:=hb;unfold oo;omega
theorem MR {w:World} {b o:Nat} {u:Value} (h:w.cell? ⟨b,o,none⟩=some u):b<w.heap.size:=by
 unfold World.cell? at h;rcases Nat.lt_or_ge b w.heap.size with hb|hb
 ·exact hb
 ·simp [Array.getElem?_eq_none hb]at h
theorem gN {T e:TypeId} {α:Type} {K B:Nat} {D:α->List CP} {Q:α->Nat->Prop} (hT:P.underlying T=some (.slice e)) (hK:P.cellsOf e=K) (hpos:0<K) (hB:B<=1000) (hel:IE enc P W base e K D Q) :
   IE enc P W base T 1 (fun l=>[CP.aW K B D l]) (QL Q):=by
 intro held n cs x _ h hb;subst hK;rcases Go.Deep.open_slice hT h with ⟨rfl,rfl⟩|⟨a,len,cap,m,n,Dt,Pl,rfl,_,hl,hm,hmm,hx,hi⟩
 ·refine⟨[],⟨_,_,rfl,⟨[],⟨by simp,.inl ⟨⟨_,rfl⟩,rfl⟩⟩,eH.nil,fun h=>absurd rfl h,trivial,by simp⟩,rfl⟩,[],rfl,?_,fun i h=>absurd h (Nat.not_lt_zero i)⟩
  exact Bp _
 ·simp only [if_true]at hmm
  have hbk:((List.range len).map fun i=>bulk (Dt i)).sum+1<=bulk x.1:=by
    rw [hx];simp only [bulk,Go.Proofs.YtpndeclljmdjkaaGreatDoor.Rows.uptoBulk];have:=Dl ((List.range len).map Dt);rw [List.map_map]at this;simp only [xK]at this;have e2:(List.map ((fun d=>Go.Proofs.YtpndeclljmdjkaaGreatDoor.Rows.uptoBulk d) ∘ Dt) (List.range len)).sum=((List.range len).map fun i=>Go.Proofs.YtpndeclljmdjkaaGreatDoor.Rows.uptoBulk (Dt i)).sum:=rfl
    rw [e2]at this;omega
  have hmem:∀ i,i<len->bulk (Dt i)<=1048576:=fun i hil=>by
    have h1:bulk (Dt i)<=((List.range len).map fun i=>bulk (Dt i)).sum:=by
      have:=qz (d:=Dt i) (l:=(List.range len).map Dt) (List.mem_map.2 ⟨i,List.mem_range.2 hil,rfl⟩);rw [Dl,List.map_map]at this;exact this
    omega
  have hlen:len<=1048576:=by
    have h1:=bulk_len ((List.range len).map Dt);rw [Dl,List.map_map]at h1;have h2:len<=((List.range len).map fun i=>bulk (Dt i)).sum:=by rw [List.length_map,List.length_range]at h1;exact h1
    omega
  by_cases hc:cap=0
  ·subst hc;obtain rfl:len=0:=by omega
   exact⟨[],⟨_,_,rfl,⟨[],⟨by simp,.inl ⟨⟨_,rfl⟩,rfl⟩⟩,eH.nil,fun h=>absurd rfl h,trivial,by simp⟩,rfl⟩,[],rfl,by simpa using Bp x.1,fun i h=>absurd h (Nat.not_lt_zero i)⟩
  have hs:a.spot=none:=by
    obtain⟨cs',h1,_⟩:=hi 0 au
    obtain⟨_,h3,h4⟩:=World.cells?_some h1;have:=h4 0 hpos;rw [Nat.zero_mul,show(a.add 0).add 0=a from rfl]at this;rw [bZ au]at this
    unfold World.cell? at this
    cases hsp:a.spot with
    |none=>rfl
    |some s =>
      rw [hsp]at this;split at this<;>simp at this
  obtain⟨b,o,s⟩:=a;simp only at hs;subst hs
  obtain⟨l,hll,hq⟩:=Tn (α:=List Value×α) (Q:=fun i p=>p.1.length=P.cellsOf e/\(∀ j,j<P.cellsOf e->W.cell? ⟨b,o+(i*P.cellsOf e+j),none⟩=p.1[j]?)/\DL (D p.2) (Pv W) p.1/\Q p.2 (bulk (Dt i))) len fun i hil=>by
    obtain⟨cs',h1,h2⟩:=hi i au
    obtain⟨_,h3,h4⟩:=World.cells?_some h1;obtain⟨y,h5,h6⟩:=hel held n cs' _ h3 h2 (hmem i hil);exact⟨(cs',y),h3,fun j hj=>by rw [<- h4 j hj,Go.Deep.add_add,Addr.add_mid],h5,h6⟩
  subst hll
  have hlk:∀ c∈l.map (·.1),c.length=P.cellsOf e:=fun c hc=>by
    obtain⟨p,hp,rfl⟩:=List.mem_map.1 hc;obtain⟨i,hi',rfl⟩:=List.getElem_of_mem hp;exact(hq i hi').1
  have hat:At W b o (l.map (·.1)).flatten:=fun j u hj=>by
    have hE:eH (P.cellsOf e) D (Pv W) (l.map (·.2)) (l.map (·.1)):=⟨by simp,hlk,fun i x hx=>by
      rw [List.getElem?_map]at hx
      cases VR:l[i]? with
      |none=>rw [VR]at hx;cases hx
      |some p =>
        rw [VR]at hx;obtain⟨hi',rfl⟩:=List.getElem?_eq_some_iff.1 VR;cases hx
        exact⟨_,by rw [List.getElem?_map,VR];rfl,(hq i hi').2.2.1⟩⟩
    have hjl:j<(l.map (·.1)).length*P.cellsOf e:=by
      have:=(List.getElem?_eq_some_iff.1 hj).1;rw [hE.flat]at this;simpa using this
    have hi':j / P.cellsOf e<l.length:=Nat.div_lt_of_lt_mul (by rw [Nat.mul_comm];simpa using hjl)
    have hjm:j=j / P.cellsOf e*P.cellsOf e+j % P.cellsOf e:=(Nat.div_add_mod' j _).symm;rw [hjm,SX.oK (l.map (·.1)) _ _ hlk (by simpa using hi') (Nat.mod_lt _ hpos)]at hj
    rw [hjm,(hq _ hi').2.1 _ (Nat.mod_lt _ hpos)];simpa using hj
  refine⟨l.map (·.2),⟨_,_,rfl,⟨l.map (·.1),?_,?_,?_,trivial,?_⟩,rfl⟩,(List.range l.length).map fun i=>bulk (Dt i),by simp,hbk,fun i h h'=>?_⟩
  ·have hE:∀ css:List (List Value),(∀ c∈css,c.length=P.cellsOf e)->css.flatten.length=css.length*P.cellsOf e:=by
     intro css
     induction css with
     |nil=>intro _;simp
     |cons c r ih =>
       intro hc;simp only [List.flatten_cons,List.length_append,List.length_cons,Nat.add_mul,ih fun u hu=>hc u (List.mem_cons_of_mem _ hu),hc c (List.mem_cons_self ..)]
       omega
   have hfl:=hE _ hlk;simp only [List.length_map]at hfl;exact⟨by simpa using hfl,.inr ⟨b,o,cap,by simp,by simpa using hl,hm,hat⟩⟩
  ·refine⟨by simp,hlk,fun i x hx=>?_⟩
   rw [List.getElem?_map]at hx
   cases VR:l[i]? with
   |none=>rw [VR]at hx;cases hx
   |some p =>
     rw [VR]at hx;obtain⟨hi',rfl⟩:=List.getElem?_eq_some_iff.1 VR;cases hx;exact⟨_,by rw [List.getElem?_map,VR];rfl,(hq i hi').2.2.1⟩
  ·intro hne b' hb';cases hb'
   have hi0:0<l.length:=by
     rcases Nat.eq_zero_or_pos l.length with h0|h0
     ·exact absurd (List.map_eq_nil_iff.2 (List.eq_nil_of_length_eq_zero h0)) hne
     ·exact h0
   have h1:=(hq 0 hi0).2.1 0 hpos;have h2:0<l[0].1.length:=by rw [(hq 0 hi0).1];exact hpos
   rw [bZ h2]at h1;exact MR h1
  ·have h1:l.length*B<=1048576*1000:=Nat.mul_le_mul hlen hB;rw [List.length_map];unfold WS;omega
  ·rw [List.length_map]at h;have e1:(l.map (·.2))[i]=l[i].2:=by simp
   have e2:((List.range l.length).map fun i=>bulk (Dt i))[i]=bulk (Dt i):=by simp
   rw [e1,e2];exact⟨(hq i h).2.2.2,Bp _⟩
theorem Ye {held:Bool} {t:TypeId} {fs:Array Field} {n:Nat} {cs:List Value} {x:DataW H×List MemPlace} (ht:P.underlying t=some (.struct fs)) (h:DataW.trod enc P W base (fun _=>true) held n t cs=some x) (j:Nat) (f:Field) (hj:fs[j]?=some f) :
   ∃ m y,DataW.trod enc P W base (fun _=>true) held m f.type ((cs.drop f.offset).take (P.cellsOf f.type))=some y/\bulk y.1+1<=bulk x.1:=by
 obtain⟨xs,m,_,hx,_,hlen,hf⟩:=DataW.trod_struct ht h;have:=hf j f hj;have hjl:j<xs.length:=by rw [hlen];exact(Array.getElem?_eq_some_iff.1 hj).1
 rw [bZ hjl]at this;refine⟨m,_,this,?_⟩;rw [hx];have h1:=qz (d:=xs[j].1) (l:=xs.map (·.1)) (List.mem_map.2 ⟨_,List.getElem_mem hjl,rfl⟩);simp only [bulk,Go.Proofs.YtpndeclljmdjkaaGreatDoor.Rows.uptoBulk]at h1 ⊢;simp only [xK]at h1;omega
theorem rd_of {held:Bool} {t ft:TypeId} {fs:Array Field} {n o k K:Nat} {cs:List Value} {x:DataW H×List MemPlace} {α:Type} {D:α->List CP} {Q:α->Nat->Prop} (ht:P.underlying t=some (.struct fs)) (h:DataW.trod enc P W base (fun _=>true) held n t cs=some x) (hb:bulk x.1<=1048576)
   (hl:cs.length=K) (j:Nat) (f:Field) (hj:fs[j]?=some f) (hft:f.type=ft) (ho:f.offset=o) (hk:P.cellsOf ft=k) (hok:o+k<=K) (hr:IE enc P W base ft k D Q):∃ y m,DL (D y) (Pv W) ((cs.drop o).take k)/\Q y m/\m+1<=bulk x.1:=by
 obtain⟨m,y,h1,h2⟩:=Ye ht h j f hj;subst hft ho hk;obtain⟨z,h3,h4⟩:=hr held m _ y (by rw [List.length_take,List.length_drop];omega) h1 au
 exact⟨z,_,h3,h4,h2⟩
theorem jo {held:Bool} {t ft:TypeId} {fs:Array Field} {n o k K:Nat} {cs:List Value} {x:DataW H×List MemPlace} {α:Type} {D:α->List CP} {Q:α->Nat->Prop} {f:Field} (ht:P.underlying t=some (.struct fs)) (h:DataW.trod enc P W base (fun _=>true) held n t cs=some x) (hb:bulk x.1<=1048576)
   (hl:cs.length=K) (j:Nat) (hr:IE enc P W base ft k D Q) (hj:fs[j]?=some f:=by rfl) (hft:f.type=ft:=by rfl) (ho:f.offset=o:=by rfl) (hk:P.cellsOf ft=k:=by kernel_rfl) (hok:o+k<=K:=by decide):∃ y m,DL (D y) (Pv W) ((cs.drop o).take k)/\Q y m/\m+1<=bulk x.1:=rd_of ht h hb hl j f hj hft ho hk hok hr
end
end Go.SX
namespace Go.SX
open List renaming getElem?_eq_getElem -> bZ
open Go.XK Go.RowKit Go.Proofs Go.Proofs.Tryz
section
variable {H:Type} {enc:TypeId×Value->H} {W:World} {base:Nat}
def jk (y:bE) (N:Nat):Prop:=QT y N
theorem jk.mono {y:bE} {n m:Nat} (h:jk y n) (k:n+1<=m):jk y m:=QT.mono h k
theorem nT:IE enc prog W base 28 4 (eu 6) jk:=by
 intro held n cs x hl h hb;obtain⟨y0,m0,d0,q0,b0⟩:=jo underlying28 h hb hl 0 (dz underlying3);obtain⟨y1,m1,d1,q1,b1⟩:=jo underlying28 h hb hl 1 (dz underlying3);obtain⟨y2,m2,d2,q2,b2⟩:=jo underlying28 h hb hl 2 (dz underlying3);obtain⟨y3,m3,d3,q3,b3⟩:=jo underlying28 h hb hl 3 (dz underlying3);exact⟨⟨y0,y1,y2,y3⟩,(d0.field (d1.field (d2.field (d3.field (DL.last hl))))),trivial⟩
def Pe (y:gX) (N:Nat):Prop:=jk y.To N
theorem Pe.mono {y:gX} {n m:Nat} (h:Pe y n) (k:n+1<=m):Pe y m:=jk.mono h k
theorem rd_TRef:IE enc prog W base 95 7 (eu 7) Pe:=by
 intro held n cs x hl h hb;obtain⟨y0,m0,d0,q0,b0⟩:=jo underlying95 h hb hl 0 (dz underlying3);obtain⟨y1,m1,d1,q1,b1⟩:=jo underlying95 h hb hl 1 (dz underlying3);obtain⟨y2,m2,d2,q2,b2⟩:=jo underlying95 h hb hl 2 nT;obtain⟨y3,m3,d3,q3,b3⟩:=jo underlying95 h hb hl 3 (dz underlying3);exact⟨⟨y0,y1,y2,y3⟩,(d0.field (d1.field (d2.field (d3.field (DL.last hl))))),q2.mono b2⟩
def IJ (y:eU) (N:Nat):Prop:=QS y.Name N
theorem IJ.mono {y:eU} {n m:Nat} (h:IJ y n) (k:n+1<=m):IJ y m:=QS.mono h k
theorem Yh:IE enc prog W base 61 4 (eu 9) IJ:=by
 intro held n cs x hl h hb;obtain⟨y0,m0,d0,q0,b0⟩:=jo underlying61 h hb hl 0 (kr underlying9);obtain⟨y1,m1,d1,q1,b1⟩:=jo underlying61 h hb hl 1 (dz underlying3);obtain⟨y2,m2,d2,q2,b2⟩:=jo underlying61 h hb hl 2 (dz underlying3);obtain⟨y3,m3,d3,q3,b3⟩:=jo underlying61 h hb hl 3 (dz underlying3);exact⟨⟨y0,y1,y2,y3⟩,(d0.field (d1.field (d2.field (d3.field (DL.last hl))))),q0.mono b0⟩
def IK (y:fQ) (N:Nat):Prop:=QS y.File N
theorem IK.mono {y:fQ} {n m:Nat} (h:IK y n) (k:n+1<=m):IK y m:=QS.mono h k
theorem Yi:IE enc prog W base 63 4 (eu 11) IK:=by
 intro held n cs x hl h hb;obtain⟨y0,m0,d0,q0,b0⟩:=jo underlying63 h hb hl 0 (dz underlying3);obtain⟨y1,m1,d1,q1,b1⟩:=jo underlying63 h hb hl 1 (dz underlying3);obtain⟨y2,m2,d2,q2,b2⟩:=jo underlying63 h hb hl 2 (kr underlying9);obtain⟨y3,m3,d3,q3,b3⟩:=jo underlying63 h hb hl 3 (dz underlying3);exact⟨⟨y0,y1,y2,y3⟩,(d0.field (d1.field (d2.field (d3.field (DL.last hl))))),q2.mono b2⟩
def xQ (y:dW) (N:Nat):Prop:=QS y.Name N/\QS y.File N
theorem xQ.mono {y:dW} {n m:Nat} (h:xQ y n) (k:n+1<=m):xQ y m:=⟨QS.mono (h.1) k,QS.mono (h.2) k⟩
theorem Qk:IE enc prog W base 129 6 (eu 13) xQ:=by
 intro held n cs x hl h hb;obtain⟨y0,m0,d0,q0,b0⟩:=jo underlying129 h hb hl 0 (dz underlying3);obtain⟨y1,m1,d1,q1,b1⟩:=jo underlying129 h hb hl 1 (dz underlying3);obtain⟨y2,m2,d2,q2,b2⟩:=jo underlying129 h hb hl 2 (dz underlying3);obtain⟨y3,m3,d3,q3,b3⟩:=jo underlying129 h hb hl 3 (kr underlying9);obtain⟨y4,m4,d4,q4,b4⟩:=jo underlying129 h hb hl 4 (kr underlying9);obtain⟨y5,m5,d5,q5,b5⟩:=jo underlying129 h hb hl 5 (dz underlying3);exact⟨⟨y0,y1,y2,y3,y4,y5⟩,(d0.field (d1.field (d2.field (d3.field (d4.field (d5.field (DL.last hl))))))),q3.mono b3,q4.mono b4⟩
def ug (y:bQ) (N:Nat):Prop:=QS y.Name N/\jk y.Target N
theorem ug.mono {y:bQ} {n m:Nat} (h:ug y n) (k:n+1<=m):ug y m:=⟨QS.mono (h.1) k,jk.mono (h.2) k⟩
theorem NI:IE enc prog W base 67 9 (eu 15) ug:=by
 intro held n cs x hl h hb;obtain⟨y0,m0,d0,q0,b0⟩:=jo underlying67 h hb hl 0 (dz underlying3);obtain⟨y1,m1,d1,q1,b1⟩:=jo underlying67 h hb hl 1 (dz underlying3);obtain⟨y2,m2,d2,q2,b2⟩:=jo underlying67 h hb hl 2 (kr underlying9);obtain⟨y3,m3,d3,q3,b3⟩:=jo underlying67 h hb hl 3 (dz underlying3);obtain⟨y4,m4,d4,q4,b4⟩:=jo underlying67 h hb hl 4 (dz underlying3);obtain⟨y5,m5,d5,q5,b5⟩:=jo underlying67 h hb hl 5 nT;exact⟨⟨y0,y1,y2,y3,y4,y5⟩,(d0.field (d1.field (d2.field (d3.field (d4.field (d5.field (DL.last hl))))))),q2.mono b2,q5.mono b5⟩
def Bz (y:iH) (N:Nat):Prop:=QT y N
theorem Bz.mono {y:iH} {n m:Nat} (h:Bz y n) (k:n+1<=m):Bz y m:=QT.mono h k
theorem Ve:IE enc prog W base 131 4 (eu 17) Bz:=by
 intro held n cs x hl h hb;obtain⟨y0,m0,d0,q0,b0⟩:=jo underlying131 h hb hl 0 (dz underlying3);obtain⟨y1,m1,d1,q1,b1⟩:=jo underlying131 h hb hl 1 (dz underlying3);obtain⟨y2,m2,d2,q2,b2⟩:=jo underlying131 h hb hl 2 (dz underlying3);obtain⟨y3,m3,d3,q3,b3⟩:=jo underlying131 h hb hl 3 (dz underlying3);exact⟨⟨y0,y1,y2,y3⟩,(d0.field (d1.field (d2.field (d3.field (DL.last hl))))),trivial⟩
def Du (y:aM) (N:Nat):Prop:=QS y.Obj N/\QS y.gD N/\QS y.Bytes N/\(QL Pe) y.Refs N/\(QL IJ) y.Marks N/\(QL IK) y.Lines N/\(QL xQ) y.dK N/\(QL ug) y.Vars N/\(QL Bz) y.gy N
theorem Du.mono {y:aM} {n m:Nat} (h:Du y n) (k:n+1<=m):Du y m:=⟨QS.mono (h.1) k,QS.mono (h.2.1) k,QS.mono (h.2.2.1) k,QL.mono (h.2.2.2.1) k,QL.mono (h.2.2.2.2.1) k,QL.mono (h.2.2.2.2.2.1) k,QL.mono (h.2.2.2.2.2.2.1) k,QL.mono (h.2.2.2.2.2.2.2.1) k,QL.mono (h.2.2.2.2.2.2.2.2) k⟩
theorem Yg:IE enc prog W base 59 12 (eu 19) Du:=by
 intro held n cs x hl h hb;obtain⟨y0,m0,d0,q0,b0⟩:=jo underlying59 h hb hl 0 (kr underlying9);obtain⟨y1,m1,d1,q1,b1⟩:=jo underlying59 h hb hl 1 (kr underlying9);obtain⟨y2,m2,d2,q2,b2⟩:=jo underlying59 h hb hl 2 (dz underlying3);obtain⟨y3,m3,d3,q3,b3⟩:=jo underlying59 h hb hl 3 (dz underlying3);obtain⟨y4,m4,d4,q4,b4⟩:=jo underlying59 h hb hl 4 (dz underlying3);obtain⟨y5,m5,d5,q5,b5⟩:=jo underlying59 h hb hl 5 (kr underlying9);obtain⟨y6,m6,d6,q6,b6⟩:=jo underlying59 h hb hl 6 (gN (B:=56) underlying56 (by kernel_rfl) (by decide) (by decide) rd_TRef)
 obtain⟨y7,m7,d7,q7,b7⟩:=jo underlying59 h hb hl 7 (gN (B:=40) underlying41 (by kernel_rfl) (by decide) (by decide) Yh)
 obtain⟨y8,m8,d8,q8,b8⟩:=jo underlying59 h hb hl 8 (gN (B:=40) underlying42 (by kernel_rfl) (by decide) (by decide) Yi)
 obtain⟨y9,m9,d9,q9,b9⟩:=jo underlying59 h hb hl 9 (gN (B:=64) underlying44 (by kernel_rfl) (by decide) (by decide) Qk)
 obtain⟨y10,m10,d10,q10,b10⟩:=jo underlying59 h hb hl 10 (gN (B:=80) underlying57 (by kernel_rfl) (by decide) (by decide) NI)
 obtain⟨y11,m11,d11,q11,b11⟩:=jo underlying59 h hb hl 11 (gN (B:=32) underlying46 (by kernel_rfl) (by decide) (by decide) Ve)
 exact⟨⟨y0,y1,y2,y3,y4,y5,y6,y7,y8,y9,y10,y11⟩,(d0.field (d1.field (d2.field (d3.field (d4.field (d5.field (d6.field (d7.field (d8.field (d9.field (d10.field (d11.field (DL.last hl))))))))))))),q0.mono b0,q1.mono b1,q5.mono b5,q6.mono b6,q7.mono b7,q8.mono b8,q9.mono b9,q10.mono b10,q11.mono b11⟩
def xR (y:qo) (N:Nat):Prop:=QS y.Name N/\QS y.Version N
theorem xR.mono {y:qo} {n m:Nat} (h:xR y n) (k:n+1<=m):xR y m:=⟨QS.mono (h.1) k,QS.mono (h.2) k⟩
theorem Ql:IE enc prog W base 97 5 (eu 21) xR:=by
 intro held n cs x hl h hb;obtain⟨y0,m0,d0,q0,b0⟩:=jo underlying97 h hb hl 0 (kr underlying9);obtain⟨y1,m1,d1,q1,b1⟩:=jo underlying97 h hb hl 1 (kr underlying9);obtain⟨y2,m2,d2,q2,b2⟩:=jo underlying97 h hb hl 2 (dz underlying3);obtain⟨y3,m3,d3,q3,b3⟩:=jo underlying97 h hb hl 3 (El underlying4);obtain⟨y4,m4,d4,q4,b4⟩:=jo underlying97 h hb hl 4 (El underlying4);exact⟨⟨y0,y1,y2,y3,y4⟩,(d0.field (d1.field (d2.field (d3.field (d4.field (DL.last hl)))))),q0.mono b0,q1.mono b1⟩
def Bw (y:jd) (N:Nat):Prop:=QS y.Name N/\QS y.Version N
theorem Bw.mono {y:jd} {n m:Nat} (h:Bw y n) (k:n+1<=m):Bw y m:=⟨QS.mono (h.1) k,QS.mono (h.2) k⟩
theorem Vd:IE enc prog W base 135 7 (eu 23) Bw:=by
 intro held n cs x hl h hb;obtain⟨y0,m0,d0,q0,b0⟩:=jo underlying135 h hb hl 0 (kr underlying9);obtain⟨y1,m1,d1,q1,b1⟩:=jo underlying135 h hb hl 1 (kr underlying9);obtain⟨y2,m2,d2,q2,b2⟩:=jo underlying135 h hb hl 2 (El underlying4);obtain⟨y3,m3,d3,q3,b3⟩:=jo underlying135 h hb hl 3 (dz underlying3);obtain⟨y4,m4,d4,q4,b4⟩:=jo underlying135 h hb hl 4 (dz underlying3);obtain⟨y5,m5,d5,q5,b5⟩:=jo underlying135 h hb hl 5 (dz underlying3);obtain⟨y6,m6,d6,q6,b6⟩:=jo underlying135 h hb hl 6 (dz underlying3);exact⟨⟨y0,y1,y2,y3,y4,y5,y6⟩,(d0.field (d1.field (d2.field (d3.field (d4.field (d5.field (d6.field (DL.last hl)))))))),q0.mono b0,q1.mono b1⟩
def nH (y:iQ) (N:Nat):Prop:=QS y.Name N/\(QL QS) y.Parents N
theorem nH.mono {y:iQ} {n m:Nat} (h:nH y n) (k:n+1<=m):nH y m:=⟨QS.mono (h.1) k,QL.mono (h.2) k⟩
theorem Gd:IE enc prog W base 276 2 (eu 27) nH:=by
 intro held n cs x hl h hb;obtain⟨y0,m0,d0,q0,b0⟩:=jo underlying276 h hb hl 0 (kr underlying9);obtain⟨y1,m1,d1,q1,b1⟩:=jo underlying276 h hb hl 1 (gN (B:=16) underlying26 (by kernel_rfl) (by decide) (by decide) (kr underlying9))
 exact⟨⟨y0,y1⟩,(d0.field (d1.field (DL.last hl))),q0.mono b0,q1.mono b1⟩
def Bv (y:om) (N:Nat):Prop:=QT y N
theorem Bv.mono {y:om} {n m:Nat} (h:Bv y n) (k:n+1<=m):Bv y m:=QT.mono h k
theorem Vb:IE enc prog W base 202 3 (eu 29) Bv:=by
 intro held n cs x hl h hb;obtain⟨y0,m0,d0,q0,b0⟩:=jo underlying202 h hb hl 0 (dz underlying3);obtain⟨y1,m1,d1,q1,b1⟩:=jo underlying202 h hb hl 1 (dz underlying3);obtain⟨y2,m2,d2,q2,b2⟩:=jo underlying202 h hb hl 2 (dz underlying3);exact⟨⟨y0,y1,y2⟩,(d0.field (d1.field (d2.field (DL.last hl)))),trivial⟩
def xS (y:dZ) (N:Nat):Prop:=QS y.From N/\(QL Bv) y.kS N/\jk y.Code N
theorem xS.mono {y:dZ} {n m:Nat} (h:xS y n) (k:n+1<=m):xS y m:=⟨QS.mono (h.1) k,QL.mono (h.2.1) k,jk.mono (h.2.2) k⟩
theorem Qm:IE enc prog W base 140 7 (eu 31) xS:=by
 intro held n cs x hl h hb;obtain⟨y0,m0,d0,q0,b0⟩:=jo underlying140 h hb hl 0 (dz underlying3);obtain⟨y1,m1,d1,q1,b1⟩:=jo underlying140 h hb hl 1 (kr underlying9);obtain⟨y2,m2,d2,q2,b2⟩:=jo underlying140 h hb hl 2 (gN (B:=24) underlying138 (by kernel_rfl) (by decide) (by decide) Vb)
 obtain⟨y3,m3,d3,q3,b3⟩:=jo underlying140 h hb hl 3 nT;exact⟨⟨y0,y1,y2,y3⟩,(d0.field (d1.field (d2.field (d3.field (DL.last hl))))),q1.mono b1,q2.mono b2,q3.mono b3⟩
def IG (y:fZ) (N:Nat):Prop:=QS y.Name N/\(QL Du) y.Nodes N/\(QL xR) y.Imports N/\(QL Bw) y.lQ N/\(QL jk) y.lZ N/\(QL jk) y.oQ N/\(QL QS) y.Needs N/\jk y.Entry N/\(QL nH) y.fJ N/\(QL xS) y.Changes N
theorem IG.mono {y:fZ} {n m:Nat} (h:IG y n) (k:n+1<=m):IG y m:=⟨QS.mono (h.1) k,QL.mono (h.2.1) k,QL.mono (h.2.2.1) k,QL.mono (h.2.2.2.1) k,QL.mono (h.2.2.2.2.1) k,QL.mono (h.2.2.2.2.2.1) k,QL.mono (h.2.2.2.2.2.2.1) k,jk.mono (h.2.2.2.2.2.2.2.1) k,QL.mono (h.2.2.2.2.2.2.2.2.1) k,QL.mono (h.2.2.2.2.2.2.2.2.2) k⟩
theorem NH:IE enc prog W base 32 14 (eu 33) IG:=by
 intro held n cs x hl h hb;obtain⟨y0,m0,d0,q0,b0⟩:=jo underlying32 h hb hl 0 (kr underlying9);obtain⟨y1,m1,d1,q1,b1⟩:=jo underlying32 h hb hl 1 (El underlying4);obtain⟨y2,m2,d2,q2,b2⟩:=jo underlying32 h hb hl 2 (gN (B:=216) underlying22 (by kernel_rfl) (by decide) (by decide) Yg)
 obtain⟨y3,m3,d3,q3,b3⟩:=jo underlying32 h hb hl 3 (gN (B:=48) underlying23 (by kernel_rfl) (by decide) (by decide) Ql)
 obtain⟨y4,m4,d4,q4,b4⟩:=jo underlying32 h hb hl 4 (gN (B:=72) underlying24 (by kernel_rfl) (by decide) (by decide) Vd)
 obtain⟨y5,m5,d5,q5,b5⟩:=jo underlying32 h hb hl 5 (gN (B:=32) underlying25 (by kernel_rfl) (by decide) (by decide) nT)
 obtain⟨y6,m6,d6,q6,b6⟩:=jo underlying32 h hb hl 6 (gN (B:=32) underlying25 (by kernel_rfl) (by decide) (by decide) nT)
 obtain⟨y7,m7,d7,q7,b7⟩:=jo underlying32 h hb hl 7 (gN (B:=16) underlying26 (by kernel_rfl) (by decide) (by decide) (kr underlying9))
 obtain⟨y8,m8,d8,q8,b8⟩:=jo underlying32 h hb hl 8 nT;obtain⟨y9,m9,d9,q9,b9⟩:=jo underlying32 h hb hl 9 (gN (B:=40) underlying29 (by kernel_rfl) (by decide) (by decide) Gd)
 obtain⟨y10,m10,d10,q10,b10⟩:=jo underlying32 h hb hl 10 (gN (B:=80) underlying30 (by kernel_rfl) (by decide) (by decide) Qm)
 exact⟨⟨y0,y1,y2,y3,y4,y5,y6,y7,y8,y9,y10⟩,(d0.field (d1.field (d2.field (d3.field (d4.field (d5.field (d6.field (d7.field (d8.field (d9.field (d10.field (DL.last hl)))))))))))),q0.mono b0,q2.mono b2,q3.mono b3,q4.mono b4,q5.mono b5,q6.mono b6,q7.mono b7,q8.mono b8,q9.mono b9,q10.mono b10⟩
def II (y:fA) (N:Nat):Prop:=QT y N
theorem II.mono {y:fA} {n m:Nat} (h:II y n) (k:n+1<=m):II y m:=QT.mono h k
theorem Yf:IE enc prog W base 85 4 (eu 35) II:=by
 intro held n cs x hl h hb;obtain⟨y0,m0,d0,q0,b0⟩:=jo underlying85 h hb hl 0 (dz underlying3);obtain⟨y1,m1,d1,q1,b1⟩:=jo underlying85 h hb hl 1 (dz underlying3);obtain⟨y2,m2,d2,q2,b2⟩:=jo underlying85 h hb hl 2 (dz underlying3);obtain⟨y3,m3,d3,q3,b3⟩:=jo underlying85 h hb hl 3 (dz underlying3);exact⟨⟨y0,y1,y2,y3⟩,(d0.field (d1.field (d2.field (d3.field (DL.last hl))))),trivial⟩
def xP (y:bX) (N:Nat):Prop:=(QL QT) y.Nodes N/\(QL QT) y.Slots N/\(QL II) y.kY N
theorem xP.mono {y:bX} {n m:Nat} (h:xP y n) (k:n+1<=m):xP y m:=⟨QL.mono (h.1) k,QL.mono (h.2.1) k,QL.mono (h.2.2) k⟩
theorem Gf:IE enc prog W base 36 7 (eu 37) xP:=by
 intro held n cs x hl h hb;obtain⟨y0,m0,d0,q0,b0⟩:=jo underlying36 h hb hl 0 (gN (B:=8) underlying33 (by kernel_rfl) (by decide) (by decide) (dz underlying3))
 obtain⟨y1,m1,d1,q1,b1⟩:=jo underlying36 h hb hl 1 (gN (B:=8) underlying33 (by kernel_rfl) (by decide) (by decide) (dz underlying3))
 obtain⟨y2,m2,d2,q2,b2⟩:=jo underlying36 h hb hl 2 (gN (B:=32) underlying34 (by kernel_rfl) (by decide) (by decide) Yf)
 obtain⟨y3,m3,d3,q3,b3⟩:=jo underlying36 h hb hl 3 (dz underlying3);obtain⟨y4,m4,d4,q4,b4⟩:=jo underlying36 h hb hl 4 (dz underlying3);obtain⟨y5,m5,d5,q5,b5⟩:=jo underlying36 h hb hl 5 (dz underlying3);obtain⟨y6,m6,d6,q6,b6⟩:=jo underlying36 h hb hl 6 (dz underlying3);exact⟨⟨y0,y1,y2,y3,y4,y5,y6⟩,(d0.field (d1.field (d2.field (d3.field (d4.field (d5.field (d6.field (DL.last hl)))))))),q0.mono b0,q1.mono b1,q2.mono b2⟩
end
end Go.SX
namespace Go.SX
open List renaming getElem?_eq_getElem -> bZ
open Go.XK Go.RowKit Go.ChangeShapes Go.WideShapes
section
variable {H:Type} {enc:TypeId×Value->H} {P:Program} {W:World}
def RdT (enc:TypeId×Value->H) (P:Program) (W:World) (T:TypeId) {α:Type} (K:Nat) (D:α->List CP) (dat:α->DataW H):Prop :=
 ∀ (held:Bool) (n:Nat) (cs:List Value) (x:DataW H×List MemPlace) (y:α),cs.length=K->DataW.trod enc P W 0 (fun _=>true) held n T cs=some x->x.1=dat y->DL (D y) (Pv W) cs
theorem Qg {T:TypeId} (hT:P.underlying T=some (.int .i64)):RdT enc P W T 1 (fun y=>[CP.int y]) (fun y=>.lit (.int .i64 y)):=by
 intro held n cs x y _ h e;obtain⟨k,rfl,rfl,hw⟩:=DataW.trod_int hT h;cases e;simp only [Lit.wf,Bool.and_eq_true,decide_eq_true_eq]at hw;exact⟨_,_,rfl,⟨rfl,hw⟩,rfl⟩
theorem rt_w64 {T:TypeId} (hT:P.underlying T=some (.int .u64)):RdT enc P W T 1 (fun y=>[CP.jg y]) (fun y=>.lit (.int .u64 y.toNat)):=by
 intro held n cs x y _ h e;obtain⟨k,rfl,rfl,hw⟩:=DataW.trod_int hT h;cases e;exact⟨_,_,rfl,rfl,rfl⟩
theorem Lh {T:TypeId} (hT:P.underlying T=some .string):RdT enc P W T 1 (fun y=>[CP.str y]) (fun y=>.lit (.string y.data.toList)):=by
 intro held n cs x y _ h e;obtain⟨s,rfl,rfl,hm⟩:=DataW.trod_string hT h;have e:s.data.toList=y.data.toList:=by injection e with e;injection e
 have e:s=y:=by
   obtain⟨⟨a⟩⟩:=s;obtain⟨⟨b⟩⟩:=y;cases e;rfl
 subst e;exact⟨_,_,rfl,⟨rfl,by unfold maxLen at hm;unfold oo;omega⟩,rfl⟩
theorem Lx {α β:Type} (f:α->β):∀ l:List α,(l.map fun y=>[f y]).flatten=l.map f
 |[]=>rfl
 |x::r=>by rw [List.map_cons,List.flatten_cons,Lx f r];rfl
def Rh (l:List Int):DataW H:=match l,decide (l.length<=1000)with
 |[],_=>.nil
 |l,true=>.slice (l.map fun y=>.lit (.int .i64 y)) []
 |_,false=>.map []
theorem rt_ints {T e:TypeId} (hT:P.underlying T=some (.slice e)) (he:P.underlying e=some (.int .i64)) (hc:P.cellsOf e=1):RdT enc P W T 1 (fun y=>[CP.lz 1 8 (fun y=>[CP.int y]) y]) Rh:=by
 intro held n cs x y _ h ed;rcases Go.Deep.open_slice1 hT hc h with ⟨rfl,rfl⟩|⟨a,len,cap,m,n,V,D,Pl,rfl,_,hl,hm,hmm,hx,hi⟩
 ·have:y=[]:=by
    cases y with
    |nil=>rfl
    |cons a r =>
      unfold Rh at ed;split at ed
      ·assumption
      ·cases ed
      ·cases ed
  subst this;exact⟨_,_,rfl,⟨[],⟨by simp,.inl ⟨⟨_,rfl⟩,rfl⟩⟩,eH.nil,fun h=>absurd rfl h,rfl,by simp⟩,rfl⟩
 ·simp only [if_true]at hmm;subst hmm;rw [hx]at ed
  cases y with
  |nil=>cases ed
  |cons y0 y =>
    have hq:(y0::y).length<=1000/\Rh (H:=H) (y0::y)=.slice ((y0::y).map fun y=>.lit (.int .i64 y)) []:=by
      cases hd:decide ((y0::y).length<=1000)with
      |true=>exact⟨of_decide_eq_true hd,by unfold Rh;rw [hd]⟩
      |false =>
        have:Rh (H:=H) (y0::y)=.map []:=by unfold Rh;rw [hd]
        rw [this]at ed;cases ed
    rw [hq.2]at ed;have hq:=hq.1;have ed:DataW.slice ((List.range len).map D) ((List.range (m-len)).map fun j=>D (len+j))=DataW.slice ((y0::y).map fun y=>.lit (.int .i64 y)) []:=ed
    injection ed with e1 e2
    have hle:m=len:=by
      have:=congrArg List.length e2;simp at this;omega
    subst hle
    have hlen:(y0::y).length=m:=by
      have:=congrArg List.length e1;simpa using this.symm
    generalize hy:y0::y=l at e1 hlen hq;have hne:0<l.length:=by rw [<- hy];simp
    have hV:∀ i (h:i<l.length),V i=.int .i64 l[i]/\lC l[i]:=fun i h=>by
      have h3:=(hi i au).2
      obtain⟨k,h4,h5,hw⟩:=DataW.trod_int he h3
      have h6:D i=.lit (.int .i64 l[i]):=by
        have h7:=congrArg (fun q=>q[i]?) e1
        simp only [List.getElem?_map,List.getElem?_range (show i<m by omega),bZ h,Option.map_some,Option.some.injEq]at h7
        exact h7
      have h8:D i=.lit (.int .i64 k):=congrArg Prod.fst h5;rw [h6]at h8;cases h8;simp only [Lit.wf,Bool.and_eq_true,decide_eq_true_eq]at hw;have h4:V i=.int .i64 l[i]:=by simpa using h4
      exact⟨h4,hw⟩
    have hs:a.spot=none:=by
      have:=(hi 0 au).1
      unfold World.cell? at this
      cases hsp:a.spot with
      |none=>rfl
      |some s =>
        rw [show(a.add 0).spot=some s from hsp]at this;split at this<;>simp at this
    obtain⟨b,o,s⟩:=a;simp only at hs;subst hs
    have hat:At W b o (l.map fun y=>[Value.int .i64 y]).flatten:=fun j u hj=>by
      rw [Lx]at hj;obtain⟨hjl,rfl⟩:=List.getElem?_eq_some_iff.1 hj;have hjl:j<l.length:=by simpa using hjl
      rw [List.getElem_map];rw [<- (hV j hjl).1];have:=(hi j au).1
      rw [show(⟨b,o,none⟩:Addr).add j=⟨b,o+j,none⟩by cases j<;>rfl]at this
      exact this
    have hf:(l.map fun y=>[Value.int .i64 y]).flatten.length=l.length:=by
      rw [Lx,List.length_map]
    refine⟨_,_,rfl,⟨l.map fun y=>[Value.int .i64 y],⟨by rw [hf,Nat.mul_one],.inr ⟨b,o,m,by rw [hlen],au,hm,hat⟩⟩,⟨by simp,fun c hc=>?_,fun i x hx=>?_⟩,fun _ b' hb'=>?_,?_,?_⟩,rfl⟩
    ·obtain⟨_,_,rfl⟩:=List.mem_map.1 hc;rfl
    ·obtain⟨h1,rfl⟩:=List.getElem?_eq_some_iff.1 hx;exact⟨[.int .i64 l[i]],by rw [List.getElem?_map,hx];rfl,_,_,rfl,⟨rfl,(hV i h1).2⟩,rfl⟩
    ·cases hb';exact MR (hi 0 au).1
    ·cases l with
     |nil=>cases hne
     |cons a r=>rfl
    ·unfold WS;omega
theorem Ib {α:Type} {K:Nat}:∀ (n:Nat) (cs:List α),cs.length=n*K->((List.range n).map fun i=>(cs.drop (i*K)).take K).flatten=cs
 |0,cs,h=>by
   rw [Nat.zero_mul]at h;rw [List.eq_nil_of_length_eq_zero h];rfl
 |n+1,cs,h=>by
   rw [List.range_succ_eq_map,List.map_cons,List.map_map,List.flatten_cons,Nat.zero_mul,List.drop_zero];have h2:=Ib (K:=K) n (cs.drop K) (by rw [List.length_drop,h,Nat.add_mul];omega)
   have e:((fun i=>(cs.drop (i*K)).take K) ∘ Nat.succ)=fun i=>((cs.drop K).drop (i*K)).take K:=by
     funext i
     show(cs.drop ((i+1)*K)).take K=_;rw [List.drop_drop,Nat.add_mul,Nat.one_mul,Nat.add_comm]
   rw [e,h2,List.take_append_drop]
theorem Aw {t e:TypeId} {n N K:Nat} {α:Type} {D:α->List CP} {dat:α->DataW H} (ht:P.underlying t=some (.array N e)) (hK:P.cellsOf e=K) (hN:P.cellsOf t=N*K) (hel:RdT enc P W e K D dat) {l:List α} {cs:List Value} {x:DataW H×List MemPlace} {held:Bool}
   (h:DataW.trod enc P W 0 (fun _=>true) held n t cs=some x) (hx:x.1=.agg (l.map dat)):∃ bC,bC.flatten=cs/\eH K D (Pv W) l bC/\l.length=N:=by
 obtain⟨xs,m,_,rfl,hl,hn,hf⟩:=DataW.trod_array ht h;have hx:DataW.agg (xs.map (·.1))=.agg (l.map dat):=hx;injection hx with hx
 have hll:l.length=N:=by
   have:=congrArg List.length hx;simpa [hn] using this.symm
 have hln:cs.length=N*K:=hl.trans hN;refine⟨(List.range N).map fun i=>(cs.drop (i*K)).take K,Ib N cs hln,⟨by simp [hll],fun us hu=>?_,fun i y hy=>?_⟩,hll⟩
 ·obtain⟨i,hi,rfl⟩:=List.mem_map.1 hu;have hi:i<N:=by simpa using hi
  have:(i+1)*K<=N*K:=Nat.mul_le_mul_right _ hi;rw [Nat.add_mul]at this;rw [List.length_take,List.length_drop,hln];omega
 ·obtain⟨hi,rfl⟩:=List.getElem?_eq_some_iff.1 hy;have hiN:i<N:=by omega
  have h1:=hf i hiN;have hix:i<xs.length:=by omega
  rw [bZ hix]at h1;refine⟨(cs.drop (i*K)).take K,by simp [hiN],hel held m _ _ _ ?_ (by rw [<- hK];exact h1) ?_⟩
  ·have:(i+1)*K<=N*K:=Nat.mul_le_mul_right _ hiN;rw [Nat.add_mul]at this;rw [List.length_take,List.length_drop,hln];omega
  ·have h7:=congrArg (fun q=>q[i]?) hx
   simp only [List.getElem?_map,bZ hix,bZ hi,Option.map_some,Option.some.injEq]at h7;exact h7
end
section
variable {H:Type} {enc:TypeId×Value->H} {W:World}
def datRow (y:oh):DataW H:=.agg [.lit (.int .i64 y.off),.lit (.int .i64 y.size),Rh y.ops]
def datForm (y:Iw):DataW H:=.agg [.lit (.string y.name.data.toList),.lit (.string y.operands.data.toList),.lit (.string y.reads.data.toList),.lit (.string y.writes.data.toList)]
theorem rt_row:RdT enc Proofs.Tryz.prog W 101 3 (eu 54) datRow:=by
 intro held n cs x y hl h e;obtain⟨y0,y1,y2,n,rfl,_,h0,h1,h2⟩:=Go.Deep.trod_struct3 Proofs.Tryz.underlying101 h;have e:DataW.agg [y0.1,y1.1,y2.1]=.agg [_,_,_]:=e;injection e with e
 injection e with e0 e
 injection e with e1 e
 injection e with e2 e
 exact DL.field (o:=0) (k:=1) (Qg Proofs.Tryz.underlying3 held n _ _ y.off (by rw [List.length_take,List.length_drop,hl];rfl) h0 e0) (DL.field (o:=1) (k:=1) (Qg Proofs.Tryz.underlying3 held n _ _ y.size (by rw [List.length_take,List.length_drop,hl];rfl) h1 e1) (DL.field (o:=2) (k:=1) (rt_ints Proofs.Tryz.underlying33 Proofs.Tryz.underlying3 (by kernel_rfl) held n _ _ y.ops (by rw [List.length_take,List.length_drop,hl];rfl) h2 e2) (DL.last hl)))
theorem rt_form:RdT enc Proofs.Tryz.prog W 272 4 (eu 76) datForm:=by
 intro held n cs x y hl h e;obtain⟨y0,y1,y2,y3,n,rfl,_,h0,h1,h2,h3⟩:=Go.Joins.trod_struct4 Proofs.Tryz.underlying272 h;have e:DataW.agg [y0.1,y1.1,y2.1,y3.1]=.agg [_,_,_,_]:=e;injection e with e
 injection e with e0 e
 injection e with e1 e
 injection e with e2 e
 injection e with e3 e
 exact DL.field (o:=0) (k:=1) (Lh Proofs.Tryz.underlying9 held n _ _ y.name (by rw [List.length_take,List.length_drop,hl];rfl) h0 e0) (DL.field (o:=1) (k:=1) (Lh Proofs.Tryz.underlying9 held n _ _ y.operands (by rw [List.length_take,List.length_drop,hl];rfl) h1 e1) (DL.field (o:=2) (k:=1) (Lh Proofs.Tryz.underlying9 held n _ _ y.reads (by rw [List.length_take,List.length_drop,hl];rfl) h2 e2)
   (DL.field (o:=3) (k:=1) (Lh Proofs.Tryz.underlying9 held n _ _ y.writes (by rw [List.length_take,List.length_drop,hl];rfl) h3 e3) (DL.last hl))))
end
theorem KY {W:World} {nm:String} {g N c:Nat} {l:Li c} {cs:Array Value} {bC:List (List Value)} (hg:Proofs.Tryz.prog.globalNamed nm=some g) (hv:W.var? Proofs.Tryz.prog nm=some cs) (h1:bC.flatten=cs.toList) (h2:eH (KT c) (eu c) (Pv W) l bC) (h3:l.length=N) (h4:0<N*KT c):Den (Pv W) [] (.lH c N l) (.pointer (some ⟨g,0,none⟩)):=by
 have hat:∀ j v,cs.toList[j]?=some v->W.cell? ⟨g,j,none⟩=some v:=fun j v hj=>by
   rw [World.var?_cell hg hv j];simpa using hj
 rw [Den];have hfl:=h2.flat;rw [h1,h3]at hfl;refine⟨g,0,bC,rfl,?_,fun j v hj=>?_,h2,h3⟩
 ·have h0:0<cs.toList.length:=by omega
  exact MR (hat 0 _ (bZ h0))
 ·rw [h1]at hj;rw [Nat.zero_add];exact hat j v hj
open Go.Proofs.YtpndeclljmdjkaaGreatDoor.Rows in
theorem glob_of {W:World} (h:laidMetH Proofs.Tryz.prog [("linchpin/digest.turns", laid_linchpin_digest_turns), ("linchpin/digest.constants", laid_linchpin_digest_constants), ("linchpin/isa.forms", laid_linchpin_isa_forms), ("linchpin/reloc.rows", laid_linchpin_reloc_rows)] W):lU E0.G (Pv W):=by
 rw [MakeChecks.laidMetH_plain _ _ _ (by kernel_rfl)]at h
 obtain⟨ps,⟨g0,t0,cs0,f0,p0,q0,hg0,ht0,hv0,hd0,⟨g1,t1,cs1,f1,p1,q1,hg1,ht1,hv1,hd1,⟨g2,t2,cs2,f2,p2,q2,hg2,ht2,hv2,hd2,⟨g3,t3,cs3,f3,p3,q3,hg3,ht3,hv3,hd3,_,_⟩,_⟩,_⟩,_⟩,_,_⟩:=h;obtain rfl:=Option.some.inj ((show Proofs.Tryz.prog.globalNamed "linchpin/digest.turns" = some 3 by kernel_rfl).symm.trans hg0)
 obtain rfl:=Option.some.inj ((show Proofs.Tryz.prog.globalNamed "linchpin/digest.constants" = some 2 by kernel_rfl).symm.trans hg1)
 obtain rfl:=Option.some.inj ((show Proofs.Tryz.prog.globalNamed "linchpin/isa.forms" = some 1 by kernel_rfl).symm.trans hg2)
 obtain rfl:=Option.some.inj ((show Proofs.Tryz.prog.globalNamed "linchpin/reloc.rows" = some 0 by kernel_rfl).symm.trans hg3)
 obtain rfl:=Option.some.inj ((show(Proofs.Tryz.prog.globals[3]?).map (·.type)=some 446 by kernel_rfl).symm.trans ht0)
 obtain rfl:=Option.some.inj ((show(Proofs.Tryz.prog.globals[2]?).map (·.type)=some 443 by kernel_rfl).symm.trans ht1)
 obtain rfl:=Option.some.inj ((show(Proofs.Tryz.prog.globals[1]?).map (·.type)=some 273 by kernel_rfl).symm.trans ht2)
 obtain rfl:=Option.some.inj ((show(Proofs.Tryz.prog.globals[0]?).map (·.type)=some 102 by kernel_rfl).symm.trans ht3)
 obtain⟨u0,a0,b0,c0⟩:=Aw (K:=1) (N:=25) Proofs.Tryz.underlying446 (by kernel_rfl) (by kernel_rfl) (Qg Proofs.Tryz.underlying3) (l:=Q0) hd0 (by kernel_rfl)
 obtain⟨u1,a1,b1,c1⟩:=Aw (K:=1) (N:=24) Proofs.Tryz.underlying443 (by kernel_rfl) (by kernel_rfl) (rt_w64 Proofs.Tryz.underlying160) (l:=uU) hd1 (by kernel_rfl)
 obtain⟨u2,a2,b2,c2⟩:=Aw (K:=4) (N:=31) Proofs.Tryz.underlying273 (by kernel_rfl) (by kernel_rfl) rt_form (l:=Q5) hd2 (by kernel_rfl)
 obtain⟨u3,a3,b3,c3⟩:=Aw (K:=3) (N:=13) Proofs.Tryz.underlying102 (by kernel_rfl) (by kernel_rfl) rt_row (l:=oJ) hd3 (by kernel_rfl)
 intro g s hs
 match g,hs with
 |0,hs=>cases hs;exact KY hg3 hv3 a3 b3 c3 (by decide)
 |1,hs=>cases hs;exact KY hg2 hv2 a2 b2 c2 (by decide)
 |2,hs=>cases hs;exact KY hg1 hv1 a1 b1 c1 (by decide)
 |3,hs=>cases hs;exact KY hg0 hv0 a0 b0 c0 (by decide)
 |g+4,hs=>cases hs
end Go.SX
