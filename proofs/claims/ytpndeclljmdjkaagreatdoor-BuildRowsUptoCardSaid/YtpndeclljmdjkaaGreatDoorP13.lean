/- A part of the proof (texts B3, B4, B5, B6, B7, B8, LpS). -/
import Derived.Ground.NamesProg
import Derived.Shelf.Small.Strs
import Derived.Test.YtpndeclljmdjkaaGreatDoorP10
set_option linter.all false
set_option maxRecDepth 100000
namespace Go.SX
open Int renaming eq_ofNat_of_zero_le -> cO
open Go.XK Go.RowKit
set_option maxHeartbeats 40000000
noncomputable section
def JK (nm:ByteArray) (k al sz:Int) (Dk:ByteArray):Bool :=
 jK nm&&(decide (0<=k)&&decide (k<5))&&PD al&&(decide (0<=sz)&&decide (sz<1048577))&&decide ((Dk.size:Int)=if k=2\/k=4 then 0 else sz)&&(!decide (k=0)||(decide (8<=al)&&decide (sz.tmod 8=0)))
def F_Cc:Fact E0:=bM 268 Proofs.Tryz.f268 rfl rfl rfl [.g Gg] (fun nm k al sz Dk _=>.ok (.b (JK nm k al sz Dk))) [WC,M5,F_Eo] [] (by
   repeat intro _
   refine dP rfl rfl fun hk=>?_
   repeat' first|refine dM ?_|apply B_<;>intro h hc|apply I_;intro h
   all_goals conv=>whnf
   all_goals (unfold JK;first|rfl|(rw [if_pos (by assumption)])|(rw [if_neg au])))
def I_Fk:je E0:=kC 363 Proofs.Tryz.f363 rfl rfl
def I_Fz:je E0:=kC 404 Proofs.Tryz.f404 rfl rfl
def I_FW:je E0:=kC 364 Proofs.Tryz.f364 rfl rfl
def Gr (x:xO):Bool:=JK x.Name x.Kind x.Align x.Size x.Bytes
def F_Bv:Fact E0:=bM 271 Proofs.Tryz.f271 rfl rfl rfl [.l 61,.k 268 [] []] (fun l=>.ok (.b ((List.range l.length).all fun k=>Gr (gt 61 l k)))) [F_Cc] [I_Fk,I_Fz,I_FW] (by
   intro l;refine dP rfl rfl fun hk=>?_
   simp only [know]at hk
   repeat' first|refine dM ?_|apply B_<;>intro h hc|apply I_;intro h
   all_goals conv=>whnf
   refine Or.inr (Or.inr ⟨[],[8],[],[],[0,1,7],[],?_⟩);conv=>whnf
   refine⟨fun(s:Int×Unit) (_:Unit)=>0<=s.1/\s.1<=l.length/\∀ j:Nat,j<s.1->(fun k=>Gr (gt 61 l k)) j=true,fun(s:Int×Unit) (_:Unit)=>(l.length-s.1).toNat,?_⟩
   conv=>whnf
   refine eZ.mk ⟨au,au,fun j hj=>absurd hj au⟩ bA ?_
   rintro⟨(k:Int),_⟩ _ ⟨h0,h1,h2⟩
   try dsimp only at h0 h1 h2
   obtain⟨k,rfl⟩:=cO h0
   repeat' first|refine dM ?_|apply B_<;>intro h hc|apply I_;intro h
   all_goals conv=>whnf
   ·(try dsimp only);rw [Pb (p:=fun k=>Gr (gt 61 l k)) (k:=k) au (by first|assumption|exact h|exact hc|exact ntr hc)];simp
   ·(try dsimp only)
    refine⟨au,au,fun j hj=>?_⟩
    rcases Nat.lt_succ_iff_lt_or_eq.1 (show j<k+1 by omega)with hj|rfl
    ·exact h2 j au
    ·first|assumption|(rename_i hx;exact hx)|(rename_i hx _;exact Et hx)|(rename_i hx _ _;exact Et hx)|(rename_i hx _ _ _;exact Et hx)
   ·rw [O9 (p:=fun k=>Gr (gt 61 l k)) fun j hj=>h2 j au];rfl)
def Jb (S:Li 61) (sec:Int) (ks:Li 0):Bool:=(decide (0<=sec)&&decide (sec<S.length))&&decide (0<=Ho ks (gt 61 S sec.toNat).Kind)
def F_CU:Fact E0:=bM 275 Proofs.Tryz.f275 rfl rfl rfl [.g bL,.i,.l 0] (fun _ dw _ _ _ _ _ _ _ _ _ sec ks=>.ok (.b (Jb dw sec ks))) [M5,WB] [] kI
def LZ (k:Int):Li 0:=if k=0 then [(0:Int)]else if k=1 then [(1:Int),(2:Int)]else [(3:Int),(4:Int)]
def F_CA:Fact E0:=bM 276 Proofs.Tryz.f276 rfl rfl rfl [.i] (fun k=>.ok (.aW (some false) 0 (LZ k))) [] [] (by
   repeat intro _
   refine dP rfl rfl fun hk=>?_
   repeat' first|refine dM ?_|apply B_<;>intro h hc|apply I_;intro h
   all_goals conv=>whnf
   all_goals (refine⟨.inr (.inl rfl),?_⟩;unfold LZ)
   ·rw [if_pos (by assumption)];rfl
   ·rw [if_neg (by assumption),if_pos (by assumption)];rfl
   ·rw [if_neg (by assumption),if_neg (by assumption)];rfl)
theorem wM {S:Li 61} {sec:Int} {ks:Li 0} (h:Jb S sec ks=true):0<=sec/\sec<S.length:=by
 simp only [Jb,bs]at h;exact h.1
def SF (S:Li 61) (x:yJ):Bool :=
 bif !(jK x.Name&&(decide (x.Version=⟨#[]⟩)||jK x.Version)&&(decide (0<=x.Bind)&&decide (x.Bind<4))&&(decide (0<=x.Vis)&&decide (x.Vis<3))&&(decide (0<=x.Kind)&&decide (x.Kind<3))&&decide (0<=x.At)&&decide (0<=x.Size))then false
 else bif decide (x.Bind=3)then decide (x.gD = -1)&&decide (x.Kind=1)&&decide (x.Version=⟨#[]⟩)&&!x.Main&&decide (x.At=0)&&decide (1<=x.Size)&&decide (x.Size<=1048576)&&PD x.Align
 else bif decide (x.gD = -1)then !decide (x.Bind=0)&&!x.Main&&decide (x.At=0)&&decide (x.Size=0)&&decide (x.Align=0)
 else bif !Jb S x.gD (LZ x.Kind) || !decide (x.Align=0)||x.Main&&decide (x.Version=⟨#[]⟩)then false
 else(!decide (x.Bind=0)||decide (x.Version=⟨#[]⟩)&&decide (x.Vis=0))&&decide (x.At<=(gt 61 S x.gD.toNat).Size)&&decide (x.Size<=(gt 61 S x.gD.toNat).Size-x.At)&&(!decide (x.Kind=0)||decide (x.At.tmod 8=0))
def F_Ch:Fact E0:=bM 274 Proofs.Tryz.f274 rfl rfl rfl [.g JD,.p bL] (fun FL FK sMain sBind sVis kT sSec FM sSize sAlign _ dw _ _ _ _ _ _ _ _ _=>.ok (.b (SF dw (⟨FL,FK,sMain,sBind,sVis,kT,sSec,FM,sSize,sAlign⟩:yJ)))) [WC,M5,F_CA,F_CU,F_Eo] [] (by
   repeat intro _
   refine dP rfl rfl fun hk=>?_
   repeat' first|(refine w_ ?_;first|(apply aP;focus (exact wM h.1.1))|refine bO bK trivial ?_)|apply B_<;>intro h hc|apply I_;intro h
   all_goals conv=>whnf
   all_goals (unfold SF;(repeat (first|exact rfl|refine gW (by assumption) ?_|refine gB (by assumption) ?_|refine jY (by first|assumption|omega) ?_|refine jZ (by first|assumption|omega) ?_))))
def dstB (kc:Nat) (f:Nat->ah kc) (k:Nat) (m:List (ah kc×ah 2)) (next:List (ah kc×ah 2)->Bool):Bool:=bif (jA m (f k)).getD false then false else next (fV m (f k) true)
def dstF (kc:Nat) (_:List (ah kc×ah 2)):Bool:=true
def dst (kc:Nat) (f:Nat->ah kc) (n:Nat):Bool:=lp (dstB kc f) (dstF kc) n 0 []
def F_Cd:Fact E0:=bM 273 Proofs.Tryz.f273 rfl rfl rfl [.g Gg] (fun FL _ _ _ _ _=>.ok (.str FL)) [] [] kI
def F_CO:Fact E0:=bM 291 Proofs.Tryz.f291 rfl rfl rfl [.g [.s,.l 0]] (fun FL _=>.ok (.str FL)) [] [] kI
def F_CP:Fact E0:=bM 293 Proofs.Tryz.f293 rfl rfl rfl [.i] (fun a=>.ok (.i a)) [] [] kI
def F_Bl:Fact E0:=bM 272 Proofs.Tryz.f272 rfl rfl rfl [.l 61,.k 273 [] []] (fun l=>.ok (.b (dst 1 (fun k=>(gt 61 l k).Name) l.length))) [F_Cd] [] (by
   intro l;refine dP rfl rfl fun hk=>?_
   simp only [know]at hk
   repeat' first|refine dM ?_|apply B_<;>intro h hc|apply I_;intro h
   all_goals conv=>whnf
   refine Or.inr (Or.inr ⟨[],[11],[],[0],[1,5,9,10],[],?_⟩);conv=>whnf
   refine⟨fun(s:Int×Unit) (t:List (ah 1×ah 2)×Unit)=>0<=s.1/\s.1<=l.length/\dst 1 (fun k=>(gt 61 l k).Name) l.length=lp (dstB 1 (fun k=>(gt 61 l k).Name)) (dstF 1) (l.length-s.1.toNat) s.1.toNat (t.1),fun(s:Int×Unit) (_:List (ah 1×ah 2)×Unit)=>(l.length-s.1).toNat,?_⟩
   conv=>whnf
   refine eZ.mk ⟨bg,bg,rfl⟩ bA ?_
   rintro⟨(k:Int),_⟩ ⟨(y0:List (ah 1×ah 2)),_⟩ ⟨h0,h1,hS⟩
   try dsimp only at h0 h1 hS
   obtain⟨k,rfl⟩:=cO (show(0:Int)<=k by omega)
   rw [Int.toNat_natCast]at hS
   repeat' first|refine dM ?_|apply B_<;>intro h hc|apply I_;intro h
   all_goals conv=>whnf
   all_goals exact l5)
def F_Bk:Fact E0:=bM 290 Proofs.Tryz.f290 rfl rfl rfl [.l 67,.k 291 [] []] (fun l=>.ok (.b (dst 1 (fun k=>(gt 67 l k).Name) l.length))) [F_CO] [] (by
   intro l;refine dP rfl rfl fun hk=>?_
   simp only [know]at hk
   repeat' first|refine dM ?_|apply B_<;>intro h hc|apply I_;intro h
   all_goals conv=>whnf
   refine Or.inr (Or.inr ⟨[],[11],[],[0],[1,5,9,10],[],?_⟩);conv=>whnf
   refine⟨fun(s:Int×Unit) (t:List (ah 1×ah 2)×Unit)=>0<=s.1/\s.1<=l.length/\dst 1 (fun k=>(gt 67 l k).Name) l.length=lp (dstB 1 (fun k=>(gt 67 l k).Name)) (dstF 1) (l.length-s.1.toNat) s.1.toNat (t.1),fun(s:Int×Unit) (_:List (ah 1×ah 2)×Unit)=>(l.length-s.1).toNat,?_⟩
   conv=>whnf
   refine eZ.mk ⟨bg,bg,rfl⟩ bA ?_
   rintro⟨(k:Int),_⟩ ⟨(y0:List (ah 1×ah 2)),_⟩ ⟨h0,h1,hS⟩
   try dsimp only at h0 h1 hS
   obtain⟨k,rfl⟩:=cO (show(0:Int)<=k by omega)
   rw [Int.toNat_natCast]at hS
   repeat' first|refine dM ?_|apply B_<;>intro h hc|apply I_;intro h
   all_goals conv=>whnf
   all_goals exact l5)
def F_Bn:Fact E0:=bM 292 Proofs.Tryz.f292 rfl rfl rfl [.l 0,.k 293 [] []] (fun l=>.ok (.b (dst 0 (fun k=>(gt 0 l k)) l.length))) [F_CP] [] (by
   intro l;refine dP rfl rfl fun hk=>?_
   simp only [know]at hk
   repeat' first|refine dM ?_|apply B_<;>intro h hc|apply I_;intro h
   all_goals conv=>whnf
   refine Or.inr (Or.inr ⟨[],[11],[],[0],[1,5,9,10],[],?_⟩);conv=>whnf
   refine⟨fun(s:Int×Unit) (t:List (ah 0×ah 2)×Unit)=>0<=s.1/\s.1<=l.length/\dst 0 (fun k=>(gt 0 l k)) l.length=lp (dstB 0 (fun k=>(gt 0 l k))) (dstF 0) (l.length-s.1.toNat) s.1.toNat (t.1),fun(s:Int×Unit) (_:List (ah 0×ah 2)×Unit)=>(l.length-s.1).toNat,?_⟩
   conv=>whnf
   refine eZ.mk ⟨bg,bg,rfl⟩ bA ?_
   rintro⟨(k:Int),_⟩ ⟨(y0:List (ah 0×ah 2)),_⟩ ⟨h0,h1,hS⟩
   try dsimp only at h0 h1 hS
   obtain⟨k,rfl⟩:=cO (show(0:Int)<=k by omega)
   rw [Int.toNat_natCast]at hS
   repeat' first|refine dM ?_|apply B_<;>intro h hc|apply I_;intro h
   all_goals conv=>whnf
   all_goals exact l5)
end
end Go.SX
namespace Go.Proofs
open Go.Shelf
noncomputable section
def YtpndeclljmdjkaaGreatDoor.Ol:Go.Shelf.Ren:=⟨fun|137=>180|217=>259|266=>344|n=>n,fun|9=>9|5=>5|3=>3|n=>n,fun|n=>n⟩
theorem YtpndeclljmdjkaaGreatDoor.lays137:Go.Proofs.Lays.n137 Tryz.prog YtpndeclljmdjkaaGreatDoor.Ol:={
 mixed:=by kernel_rfl
 f137:=Tryz.func180.trans (congrArg some (by kernel_rfl))
 f217:=Tryz.func259.trans (congrArg some (by kernel_rfl))
 f266:=Tryz.func344.trans (congrArg some (by kernel_rfl))
 t3:=Tryz.underlying3
 a3:=Tryz.isAgg3
 z3:=Tryz.sizeOf3
 v3:=Tryz.zeroValue3
 t5:=Tryz.underlying5
 a5:=Tryz.isAgg5
 z5:=Tryz.sizeOf5
 v5:=Tryz.zeroValue5
 t9:=Tryz.underlying9
 a9:=Tryz.isAgg9
 z9:=Tryz.sizeOf9
 v9:=Tryz.zeroValue9 }
end
end Go.Proofs
namespace Go.SX
open Int renaming eq_ofNat_of_zero_le -> cO
open Go.XK Go.RowKit
set_option maxHeartbeats 40000000
noncomputable section
@[reducible] def a_GR:List SV->PR
 |[.str s,.w8 c]=>.ok (.i (Lib.indexByte s.data.toList c))
 |_=>.no
theorem idxB_le (l:List UInt8) (c:UInt8):Lib.indexByte l c<=l.length:=by
 induction l with
 |nil=>simp [Lib.indexByte]
 |cons b l ih =>
   unfold Lib.indexByte;rw [List.length_cons];split
   ·omega
   ·split<;>omega
theorem o_Gc:xU 180 a_GR:=by
 intro args m ids vs hG hm hv;unfold a_GR;split
 ·rename_i s c;rw [aC]at hv;obtain⟨u,us,rfl,h1,h2⟩:=hv;rw [aC]at h2;obtain⟨u2,kJ,rfl,h3,h4⟩:=h2;rw [aC]at h4;subst h4;have h1:u=.string s/\(s.size:Int)<=oo:=by rw [Den]at h1;exact h1
  have h3:u2=.int .u8 c.toNat:=by rw [Den]at h3;exact h3
  obtain⟨rfl,h5⟩:=h1;subst h3;refine(Go.Proofs.Any.strings_IndexByte Go.Proofs.YtpndeclljmdjkaaGreatDoor.lays137 s c.toNat m.w).mono fun e w' ⟨he,hw⟩=>?_
  subst hw;refine⟨_,m.S,he,Ext.refl _,Mm.le.refl m,fun b hb=>⟨hm b hb,.inl hb⟩,?_⟩
  rw [Den];have e1:(c.toNat:Int).toNat.toUInt8=c:=by simp
  rw [e1];refine⟨rfl,?_⟩;have h6:=Lib.indexByte_ge s.data.toList c;have h7:=idxB_le s.data.toList c;have h8:s.data.toList.length=s.size:=(Lib.size_eq s).symm;unfold oo at h5;constructor<;>omega
 ·trivial
def F_Dc:Fact E0:=⟨180,a_GR,by unfold dA;kernel_rfl,o_Gc⟩
def ZG (op n:Int):Bool :=
 bif decide (op=19)||decide (op=20)||decide (op=21)||decide (op=24)||decide (op=25)then decide (n.tmod 8=0)&&lV n 32 true
 else bif decide (op=22)then decide (n.tmod 8=0)&&decide (-512<=n)&&decide (n<=504)
 else bif decide (op=30)then decide (0<=n)&&decide (n<8)
 else lV n 32 true
def F_BY:Fact E0:=bM 178 Go.Proofs.Tryz.f178 rfl rfl rfl [.g CF] (fun iOp _ _ _ iImm=>.ok (.b (ZG iOp iImm))) [F_Em] [] (by
   repeat intro _
   refine dP rfl rfl fun hk=>?_
   repeat' first|refine dM ?_|apply B_<;>intro h hc|apply I_;intro h
   all_goals conv=>whnf
   all_goals first
    |(exfalso;omega)
    |(unfold ZG;simp_all;done))
def TB (op:Int) (u:UInt8) (n:Int):Bool :=
 !decide (0<=Lib.indexByte (gt 76 Q5 op.toNat).operands.data.toList u)&&!decide (n=0) || !decide (u=73)&&(decide (n<0)||decide (15<n))
def isRight (i:rJ):Bool :=
 bif decide (i.Op<=0)||decide (31<=i.Op) || !ZG i.Op i.Imm then false
 else bif TB i.Op 65 i.A then false
 else bif TB i.Op 66 i.B then false
 else bif TB i.Op 67 i.C then false
 else bif TB i.Op 73 i.Imm then false
 else true
def I_FO:je E0:=kC 179 Go.Proofs.Tryz.f179 rfl rfl
def F_BX:Fact E0:=bM 72 Go.Proofs.Tryz.f72 rfl rfl rfl [.g CF] (fun iOp iA iB iC iImm=>.ok (.b (isRight (⟨iOp,iA,iB,iC,iImm⟩:rJ)))) [F_BY,F_Dc] [I_FO] (by
   repeat intro _
   refine dP rfl rfl fun hk=>?_
   repeat' first|refine dM ?_|apply B_<;>intro h hc|apply I_;intro h
   all_goals conv=>whnf
   ·unfold isRight;(repeat (first|exact rfl|refine gW (by assumption) ?_|refine gB (by assumption) ?_|refine jY (by first|assumption|omega) ?_|refine jZ (by first|assumption|omega) ?_))
   ·refine Or.inr (Or.inl ⟨5,?_⟩);conv=>whnf
    repeat' first|refine dM ?_|apply B_<;>intro h hc|apply I_;intro h
    all_goals conv=>whnf
    all_goals (unfold isRight;(repeat (first|exact rfl|refine gW (by assumption) ?_|refine gB (by assumption) ?_|refine jY (by first|assumption|omega) ?_|refine jZ (by first|assumption|omega) ?_))))
def F_En:Fact E0:=⟨24,a29,by unfold dA;kernel_rfl,o29⟩
def isIns (s:ByteArray) (p:Int):rJ:=⟨(rz s p).toNat,(rz s (p+1)).toNat,(rz s (p+2)).toNat,(rz s (p+3)).toNat,WX s (p+4) 4 true⟩
def vF (s:ByteArray) (p:Int):rJ×Bool :=
 bif decide (p<0)||decide ((s.size:Int)-8<p)then(⟨0,0,0,0,0⟩,false)
 else bif !l7 s (p+4) 4 || !isRight (isIns s p)then(⟨0,0,0,0,0⟩,false)
 else(isIns s p,true)
def F_BV:Fact E0:=bM 158 Proofs.Tryz.f158 rfl rfl rfl [.s,.i] (fun s p=>.ok (.jm [.agg [.i (vF s p).1.Op,.i (vF s p).1.A,.i (vF s p).1.B,.i (vF s p).1.C,.i (vF s p).1.Imm],.b (vF s p).2])) [F_En,F_BX] [] (by
   intro s p;refine dP rfl rfl fun hk=>?_
   simp only [know]at hk;generalize hz:vF s p=z
   repeat' first|refine dM ?_|apply B_<;>intro h hc|apply I_;intro h
   all_goals conv=>whnf
   all_goals (unfold vF at hz;(repeat (first|replace hz:=qV (by assumption) hz|replace hz:=nE (by assumption) hz|replace hz:=wT (by first|assumption|omega) hz|replace hz:=wX (by first|assumption|omega) hz));subst hz;exact bA))
def obIn (n:Nat) (s:Int):Bool:=decide (0<=s)&&decide (s<n)
def ltI (a b:Int):Bool:=decide (a<b)
def SG (k:Int):Li 0:=if k=5 then [(14:Int),(19:Int),(20:Int),(21:Int)]else if k=6 then [(22:Int)]else if k=7 then [(24:Int),(25:Int)]else if k=8 then [(3:Int)]else if k=9 then [(4:Int)]else if k=10 then [(13:Int),(3:Int)]else []
def Qt (k:Int):Bool:=if k=5 then false else if k=6 then false else if k=7 then false else if k=8 then false else if k=9 then false else if k=10 then false else true
def F_Cm:Fact E0:=bM 282 Proofs.Tryz.f282 rfl rfl rfl [.i] (fun k=>.ok (.aW (some (Qt k)) 0 (SG k))) [] [] (by
   repeat intro _
   refine dP rfl rfl fun hk=>?_
   repeat' first|refine dM ?_|apply B_<;>intro h hc|apply I_;intro h
   all_goals conv=>whnf
   all_goals (first|refine⟨.inr (.inl (congrArg some ?_)),?_⟩|refine⟨.inr (congrArg some ?_),?_⟩)
   all_goals first|(unfold Qt;all_goals exact lI)|(unfold SG;all_goals exact lI)|(symm;unfold SG;all_goals exact lI))
theorem Vn (k:Int):kM k=4\/kM k=2\/kM k=8:=by
 unfold kM;split
 ·exact .inl rfl
 ·split
  ·exact .inr (.inl rfl)
  ·exact .inr (.inr rfl)
def JL (S:Li 61) (n:Nat) (x:Pd):Bool :=
 bif !(decide (0<=x.Kind)&&decide (x.Kind<13))then false
 else bif !Jb S x.gD [(0:Int),(1:Int)] || !(decide (0<=x.Sym)&&decide (x.Sym<n))||decide (x.Add < -2147483648)||decide (2147483648<=x.Add)then false
 else bif !(decide (0<=x.At)&&decide (x.At<(gt 61 S x.gD.toNat).Size))||decide ((gt 61 S x.gD.toNat).Size-kM x.Kind<x.At) || !decide (x.At.tmod (kM x.Kind)=0)then false
 else bif Nj true (Qt x.Kind)then decide ((gt 61 S x.gD.toNat).Kind=1)&&decide (kM x.Kind<=(gt 61 S x.gD.toNat).Align)
 else decide ((gt 61 S x.gD.toNat).Kind=0)&&(vF (gt 61 S x.gD.toNat).Bytes x.At).2&&decide (0<=Ho (SG x.Kind) (vF (gt 61 S x.gD.toNat).Bytes x.At).1.Op)
def F_CZ:Fact E0:=bM 280 Proofs.Tryz.f280 rfl rfl rfl [.g CF,.p bL] (fun rSec pX dB rSym jc _ dw iJ _ _ _ _ _ _ _ _=>.ok (.b (JL dw iJ.length (⟨rSec,pX,dB,rSym,jc⟩:Pd)))) [M5,F_CU,F_Cu,F_Cm,F_BV,WB] [] (by
   intro _ _ dB
   repeat intro _
   refine dP rfl rfl fun hk=>?_
   have hw:=Vn dB
   repeat' first|(refine w_ ?_;first|(apply aP;focus (first|exact wM h.1.1.1.2|exact wM h.1.1.1|(intro _<;>omega)))|refine bO bK trivial ?_)|apply B_<;>intro h hc|apply I_;intro h
   all_goals conv=>whnf
   all_goals (unfold JL;(repeat (first|exact rfl|refine gW (by assumption) ?_|refine gB (by assumption) ?_|refine jY (by first|assumption|omega) ?_|refine jZ (by first|assumption|omega) ?_))))
def Gt (a b:Pd):Bool:=decide (a.gD<b.gD)||decide (a.gD=b.gD)&&decide (IntKind.i64.wrap (a.At+kM a.Kind)<=b.At)
def F_Ca:Fact E0:=bM 283 Proofs.Tryz.f283 rfl rfl rfl [.g CF,.g CF] (fun MW aAt aKind aSym aAdd MV Ji bKind bSym bAdd=>.ok (.b (Gt (⟨MW,aAt,aKind,aSym,aAdd⟩:Pd) (⟨MV,Ji,bKind,bSym,bAdd⟩:Pd)))) [F_Cu] [] kI
def LX (Y:Li 63) (i kind:Int):Bool:=(decide (0<=i)&&decide (i<Y.length))&&decide ((gt 63 Y i.toNat).Kind=kind)
def F_Cf:Fact E0:=bM 296 Proofs.Tryz.f296 rfl rfl rfl [.g bL,.i,.i] (fun _ _ iJ _ _ _ _ _ _ _ _ i kind=>.ok (.b (LX iJ i kind))) [M5] [] kI
def Qv (Y:Li 63) (x:Ux):Bool:=LX Y x.Sym 0&&decide (-1048576<=x.Order)&&decide (x.Order<=1048576)
def F_CR:Fact E0:=bM 295 Proofs.Tryz.f295 rfl rfl rfl [.g [.i,.i,.b],.p bL] (fun xSym xOrder xLast _ _ iJ _ _ _ _ _ _ _ _=>.ok (.b (Qv iJ (⟨xSym,xOrder,xLast⟩:Ux)))) [F_Cf] [] kI
def Qu (S:Li 61) (x:fQ):Bool:=Jb S x.gD [(0:Int)]&&(decide (0<=x.At)&&decide (x.At<(gt 61 S x.gD.toNat).Size))&&decide (x.At.tmod 8=0)&&Gv x.File&&decide (1<=x.Line)&&decide (x.Line<=1048576)
def F_CW:Fact E0:=bM 297 Proofs.Tryz.f297 rfl rfl rfl [.g pY,.p bL] (fun jQ yK vg u7 _ dw _ _ _ _ _ _ _ _ _=>.ok (.b (Qu dw (⟨jQ,yK,vg,u7⟩:fQ)))) [F_CU,M5,F_Bz] [] (g_ bK @wM)
def AP (a b:fQ):Bool:=decide (a.gD<b.gD)||decide (a.gD=b.gD)&&decide (a.At<b.At)
def F_CX:Fact E0:=bM 299 Proofs.Tryz.f299 rfl rfl rfl [.g pY,.g pY] (fun MW aAt aFile aLine MV Ji bFile bLine=>.ok (.b (AP (⟨MW,aAt,aFile,aLine⟩:fQ) (⟨MV,Ji,bFile,bLine⟩:fQ)))) [] [] kI
def LY (S:Li 61) (sec p q:Int):Bool:=Jb S sec [(0:Int)]&&decide (0<=p)&&decide (p<q)&&decide (q<=(gt 61 S sec.toNat).Size)&&decide (p.tmod 8=0)&&decide (q.tmod 8=0)
def F_Ce:Fact E0:=bM 304 Proofs.Tryz.f304 rfl rfl rfl [.g bL,.i,.i,.i] (fun _ dw _ _ _ _ _ _ _ _ _ sec p q=>.ok (.b (LY dw sec p q))) [F_CU] [] (by
   repeat intro _
   refine dP rfl rfl fun hk=>?_
   repeat' first|(refine w_ ?_;first|(apply aP;focus (intro hq<;>simp only [bs]at hq<;>exact wM hq.1.1))|refine bO bK trivial ?_)|apply B_<;>intro h hc|apply I_;intro h
   all_goals conv=>whnf
   all_goals rfl)
def YG (S:Li 61) (x:dW):Bool:=LY S x.gD x.From x.To&&jK x.Name&&Gv x.File&&decide (1<=x.Line)&&decide (x.Line<=1048576)
def F_CT:Fact E0:=bM 303 Proofs.Tryz.f303 rfl rfl rfl [.g nU,.p bL] (fun jQ gV I5 xName vg u7 _ dw _ _ _ _ _ _ _ _ _=>.ok (.b (YG dw (⟨jQ,gV,I5,xName,vg,u7⟩:dW)))) [F_Ce,WC,F_Bz] [] kI
def YF (S:Li 61) (Y:Li 63) (x:kR):Bool :=
 bif !LY S x.gD x.From x.To || !jK x.Name then false
 else bif decide (x.Where=0)then decide (0<=x.N)&&decide (x.N<16)
 else bif decide (x.Where=1)then(decide (0<=x.N)&&decide (x.N<1024))&&decide (x.N.tmod 8=0)
 else bif decide (x.Where=2)then LX Y x.N 1
 else false
def F_Ck:Fact E0:=bM 305 Proofs.Tryz.f305 rfl rfl rfl [.g wH,.p bL] (fun jQ gV I5 xName Px xN _ dw iJ _ _ _ _ _ _ _ _=>.ok (.b (YF dw iJ (⟨jQ,gV,I5,xName,Px,xN⟩:kR)))) [F_Ce,F_Cf,WC,M5] [] kI
def Gp (a b:kR):Bool:=decide (cOr [uf a.gD b.gD,uf a.From b.From,uf a.To b.To,cmpS a.Name b.Name]<0)
def F_Cl:Fact E0:=bM 306 Proofs.Tryz.f306 rfl rfl rfl [.g wH,.g wH] (fun MW Iu aTo aName aWhere aN MV Ip bTo bName bWhere bN=>.ok (.b (Gp (⟨MW,Iu,aTo,aName,aWhere,aN⟩:kR) (⟨MV,Ip,bTo,bName,bWhere,bN⟩:kR)))) [Jq,F_AS,F_AT] [] kI
def YK (S:Li 61) (x:iH):Bool:=LY S x.gD x.From x.To&&(decide (0<=x.Bytes)&&decide (x.Bytes<1024))&&decide (x.Bytes.tmod 8=0)
def F_CJ:Fact E0:=bM 309 Proofs.Tryz.f309 rfl rfl rfl [.g fC,.p bL] (fun jQ gV I5 Py _ dw _ _ _ _ _ _ _ _ _=>.ok (.b (YK dw (⟨jQ,gV,I5,Py⟩:iH)))) [F_Ce,M5] [] kI
def Gw (a b:iH):Bool:=decide (a.gD<b.gD)||decide (a.gD=b.gD)&&decide (a.To<=b.From)
def F_CK:Fact E0:=bM 310 Proofs.Tryz.f310 rfl rfl rfl [.g fC,.g fC] (fun MW Iu aTo aBytes MV Ip bTo bBytes=>.ok (.b (Gw (⟨MW,Iu,aTo,aBytes⟩:iH) (⟨MV,Ip,bTo,bBytes⟩:iH)))) [] [] kI
def F_CM:Fact E0:=bM 287 Proofs.Tryz.f287 rfl rfl rfl [.i,.p bL] (fun s _ dw _ _ _ _ _ _ _ _ _=>.ok (.b (obIn dw.length s))) [M5] [] kI
def F_CN:Fact E0:=bM 289 Proofs.Tryz.f289 rfl rfl rfl [.i,.i] (fun a b=>.ok (.b (ltI a b))) [] [] kI
def YI (p n s:Int):Bool:=decide (0<=p)&&decide (1<=n)&&decide (n<=s)&&decide (p<=s-n)
def F_CE:Fact E0:=bM 314 Proofs.Tryz.f314 rfl rfl rfl [.i,.i,.i] (fun p n s=>.ok (.b (YI p n s))) [] [] kI
def obPc (s:Int) (x:om):Bool:=YI x.From x.Size 1048576&&YI x.To x.Size s
def F_CF:Fact E0:=bM 316 Proofs.Tryz.f316 rfl rfl rfl [.g [.i,.i,.i],.p [.k 314 [] []],.p [.i]] (fun gV rM I5 s=>.ok (.b (obPc s (⟨gV,rM,I5⟩:om)))) [F_CE] [] kI
def NT (a b:om):Bool:=decide (IntKind.i64.wrap (a.To+a.Size)<=b.To)
def F_CG:Fact E0:=bM 318 Proofs.Tryz.f318 rfl rfl rfl [.g [.i,.i,.i],.g [.i,.i,.i]] (fun Iu aSize aTo Ip bSize bTo=>.ok (.b (NT (⟨Iu,aSize,aTo⟩:om) (⟨Ip,bSize,bTo⟩:om)))) [] [] kI
def NU (a b:oP):Bool:=decide (a.gD<b.gD)||decide (a.gD=b.gD)&&wB a.From b.From
def F_CH:Fact E0:=bM 319 Proofs.Tryz.f319 rfl rfl rfl [.g zI,.g zI] (fun MW Iu aPieces aCode MV Ip bPieces bCode=>.ok (.b (NU (⟨MW,Iu,aPieces,aCode⟩:oP) (⟨MV,Ip,bPieces,bCode⟩:oP)))) [] [] kI
structure WG (P:Nat->Bool) (n:Nat) (Z:Bool):Prop where
 eq:Z=(List.range n).all P
theorem WG.f {P:Nat->Bool} {n k:Nat} {Z:Bool} (h:WG P n Z) (hk:k<n) (hp:P k=false):Z=false:=h.eq.trans (Pb hk hp)
theorem WG.t {P:Nat->Bool} {n:Nat} {Z:Bool} (h:WG P n Z) (hp:∀ j,j<n->P j=true):Z=true:=h.eq.trans (O9 hp)
theorem evW_ {DB:List (Fact E0)} {IL:List (je E0)} {fn:Func} {c:Code} {N:Nat} {args:List SV} {P:Nat->Bool} {n:Nat} (h:Nat.ble (len args) N=true) (k:∀ Z,WG P n Z->know args->Wq DB IL fn c N args (.b Z)):Wp DB IL fn c N args (.ok (.b ((List.range n).all P))):=dP h rfl (k _ ⟨rfl⟩)
def evF {S T:Type} (P:Nat->Bool) (n:Nat) (kf:S->T->Int) (s:S) (t:T):Prop:=∃ k:Nat,kf s t=k/\k<=n/\∀ j,j<k->P j=true
theorem evI_ {S T:Type} {P:Nat->Bool} {n:Nat} {Z:Bool} (_:WG P n Z) (kf:S->T->Int) {G:(S->T->Prop)->(S->T->Nat)->Prop} (h:G (evF P n kf) fun s t=>((n:Int)-kf s t).toNat):∃ F μ,G F μ:=⟨_,_,h⟩
theorem evN {b:Bool} (h:(!b)=true):b=false:=by cases b<;>simp_all
theorem evN2 {b:Bool} (h:(!b)=false):b=true:=by cases b<;>simp_all
theorem uW {P:Prop} (h:P:=by
   repeat intro _
   refine evW_ rfl fun Z hZ hk=>?_
   simp only [know]at hk
   repeat' first|((with_reducible apply B_)<;>intro h hc)|((with_reducible apply I_);intro h)|refine s_ bK trivial ?_|fail
   all_goals conv=>whnf
   refine Or.inr (Or.inr ⟨[],[8],[],[],[0,1,7],[],?_⟩);conv=>whnf
   refine evI_ hZ (fun s _=>s.1) ?_
   conv=>whnf
   refine eZ.mk ⟨0,rfl,Nat.zero_le _,fun j hj=>absurd hj (Nat.not_lt_zero _)⟩ bA ?_
   rintro⟨(k0:Int),_⟩ _ ⟨k,hk0,hkn,h2⟩;replace hk0:k0=(k:Int):=hk0;subst hk0
   repeat' first|((with_reducible apply B_)<;>intro h hc)|((with_reducible apply I_);intro h)|refine s_ bK trivial ?_|fail
   all_goals conv=>whnf
   ·rw [hZ.f (k:=k) au (by first|assumption|exact h|exact hc|exact evN hc)];(try simp)
   ·refine⟨k+1,rfl,au,fun j hj=>?_⟩
    rcases Nat.lt_succ_iff_lt_or_eq.1 hj with hj|rfl
    ·exact h2 j hj
    ·first|assumption|exact evN2 hc
   ·rw [hZ.t fun j hj=>h2 j au];(try rfl)):P:=h
end
end Go.SX
