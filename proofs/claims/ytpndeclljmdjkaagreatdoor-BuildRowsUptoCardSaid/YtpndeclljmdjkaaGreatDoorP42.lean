/- A part of the proof (texts B73, SrtF, B74). -/
import Derived.Ground.SlgcProg
import Derived.Ground.SlsfProg
import Derived.Shelf.SlSortCmp.NoneTotal
import Derived.Shelf.SlSortCmp.WholeK
import Derived.Shelf.SlicesG.Cmp
import Derived.Test.YtpndeclljmdjkaaGreatDoorP08
import Derived.Test.YtpndeclljmdjkaaGreatDoorP09
import Derived.Test.YtpndeclljmdjkaaGreatDoorP10
import Derived.Test.YtpndeclljmdjkaaGreatDoorP12
set_option linter.all false
set_option maxRecDepth 100000
namespace Go.SX
open List renaming getElem?_eq_getElem -> bZ
open List renaming length -> ln
open Go.XK Go.RowKit
set_option maxHeartbeats 40000000
noncomputable section
section
variable {α:Type} {p:α->Bool}
structure Pn (p:α->Bool) (l u:List α) (i j:Nat):Prop where
 len:u.length=l.length
 lt:i<j
 le:j<=l.length
 front:u.take i=(l.take j).filter p
 back:u.drop j=l.drop j
theorem Pn.get {l u:List α} {i j:Nat} (h:Pn p l u i j) {x:α} (hx:u[j]?=some x):l[j]?=some x:=by
 have e:(u.drop j)[0]?=(l.drop j)[0]?:=by rw [h.back]
 rw [List.getElem?_drop,List.getElem?_drop,Nat.add_zero]at e;rw [<- e];exact hx
theorem take_one {l:List α} {j:Nat} {x:α} (hx:l[j]?=some x):l.take (j+1)=l.take j++[x]:=by
 rw [List.take_add_one,hx];rfl
theorem Pn.start {l:List α} {i:Nat} {x:α} (hx:l[i]?=some x) (hp:p x=false) (ha:∀ j y,j<i->l[j]?=some y->p y=true):Pn p l l i (i+1):=by
 have hi:i<l.length:=(List.getElem?_eq_some_iff.1 hx).1;refine⟨rfl,Nat.lt_succ_self _,hi,?_,rfl⟩;rw [take_one hx,List.filter_append,List.filter_cons_of_neg (by simp [hp]),List.filter_nil,List.append_nil]
 symm;rw [List.filter_eq_self];intro y hy;obtain⟨j,hj⟩:=List.mem_iff_getElem?.1 hy;rw [List.getElem?_take]at hj;split at hj
 ·rename_i h;exact ha j y h hj
 ·cases hj
theorem Pn.keep {l u:List α} {i j:Nat} (h:Pn p l u i j) {x:α} (hx:u[j]?=some x) (hp:p x=true):Pn p l (u.set i x) (i+1) (j+1):=by
 have hl:=h.get hx;have hj:j<l.length:=(List.getElem?_eq_some_iff.1 hl).1;have hlt:=h.lt;refine⟨by rw [List.length_set,h.len],au,hj,?_,?_⟩
 ·rw [take_one hl,List.filter_append,<- h.front,List.filter_cons_of_pos hp,List.filter_nil,take_one (x:=x) (by rw [List.getElem?_set_self (by rw [h.len];omega)])]
  rw [List.take_set_of_le (Nat.le_refl _)]
 ·rw [List.drop_set_of_lt au,<- List.drop_drop,h.back,List.drop_drop]
theorem Pn.skip {l u:List α} {i j:Nat} (h:Pn p l u i j) {x:α} (hx:u[j]?=some x) (hp:p x=false):Pn p l u i (j+1):=by
 have hl:=h.get hx;have hj:j<l.length:=(List.getElem?_eq_some_iff.1 hl).1;have hlt:=h.lt;refine⟨h.len,au,hj,?_,?_⟩
 ·rw [take_one hl,List.filter_append,<- h.front,List.filter_cons_of_neg (by simp [hp]),List.filter_nil,List.append_nil]
 ·rw [<- List.drop_drop,h.back,List.drop_drop]
theorem Pn.all {l:List α} (ha:∀ (j:Nat) (y:α),l[j]?=some y->p y=true):l.filter p=l:=by
 rw [List.filter_eq_self];intro y hy;obtain⟨j,hj⟩:=List.mem_iff_getElem?.1 hy;exact ha j y hj
theorem cpy_len {l r:List α} {lo hi:Nat} (h1:lo<=hi) (h2:hi<=l.length):(vS l lo hi r).length=l.length:=by
 unfold vS;simp;omega
theorem Pn.fin {l u r:List α} {i j:Nat} (h:Pn p l u i j) (hj:l.length<=j):((vS u i u.length r).drop 0).take (i-0)=l.filter p:=by
 have e:j=l.length:=Nat.le_antisymm h.le hj;have hf:=h.front;have hlt:=h.lt;have hlen:=h.len;rw [e,List.take_length]at hf;rw [List.drop_zero,Nat.sub_zero,<- hf];unfold vS;rw [List.append_assoc,List.take_append_of_le_length (by rw [List.length_take];omega),List.take_take,Nat.min_self]
end
theorem TP {c:Nat} {l:Li c} {j:Nat} (h:j<l.length):l[j]?=some (gt c l j):=by
 unfold gt;rw [List.getD_eq_getElem?_getD,bZ h];rfl
def JJ (x:ah 44):Bool:=!decide ((show dQ from x).Size<=0)
def F_Ao:Fact E0:=bM 186 Proofs.Tryz.f186 rfl rfl rfl [.g [.i,.i]] (fun _ rM=>.ok (.b (decide (rM<=0)))) [] [] kI
def BF:je E0:=kC 260 Proofs.Tryz.f260 rfl rfl
theorem OD {z:Option Bool} {l:Li 44} (hl:@ln (ah 44) l<=140737488355328):HC E0 184 1 [.bT 0,.nL 186 [] []] [(0,.arr 133 z 44 l)] (fun s H n=>s=.bT 1/\H=[(1,.arr 133 none 44 (List.filter (α:=ah 44) JJ l))]/\n=2):=by
 refine V8 (DB:=[F_Ao]) (IL:=[BF]) (WL:=[]) (fn:=Proofs.Tryz.f184) rfl rfl rfl rfl (by unfold dA;kernel_rfl) (fun hk=>?_)
 simp only [know]at hk
 repeat' first|refine dM ?_|apply B_<;>intro h hc|apply I_;intro h
 all_goals conv=>whnf
 refine Or.inr (Or.inr ⟨[],[8],[],[],[0,1,7],[],?_⟩);conv=>whnf
 refine⟨fun(s:Int×Unit) (_:Unit)=>∃ k:Nat,s.1=k/\k<=@ln (ah 44) l/\∀ (j:Nat) (y:ah 44),j<k->l[j]?=some y->JJ y=true,fun(s:Int×Unit) _=>((@ln (ah 44) l:Nat)-s.1).toNat,?_⟩
 conv=>whnf
 refine eZ.mk ⟨0,rfl,Nat.zero_le _,fun j y h=>absurd h (Nat.not_lt_zero _)⟩ bA ?_
 rintro⟨(k:Int),_⟩ _ ⟨k,hk1,hk2,hA⟩;replace hk1:_=(k:Int):=hk1;subst hk1;replace hk2:k<=@ln (ah 44) l:=hk2;refine gK fun K hK=>?_
 by_cases hkl:k<@ln (ah 44) l
 ·have hd:decide ((k:Int)<(@ln (ah 44) l:Nat))=true:=decide_eq_true au
  have hn1:decide ((k:Int) = -1)=false:=decide_eq_false au
  have hgk:l[k]?=some (gt 44 l k):=TP hkl
  repeat' first|refine iF ?_|apply B_<;>intro h hc|apply I_;intro h
  all_goals refine iw ?_
  ·have hsz:JJ (gt 44 l k)=false:=by unfold JJ;first|(rw [hc];rfl)|simp_all
   refine Or.inr (Or.inr ⟨[],[5,6],[],[0],[0,1],[],?_⟩);conv=>whnf
   refine⟨fun(s:Int×Int×Unit) (t:Li 44×Unit)=>∃ i j:Nat,s.1=i/\s.2.1=j/\Pn JJ l t.1 i j,fun(s:Int×Int×Unit) _=>((@ln (ah 44) l:Nat)-s.2.1).toNat,?_⟩
   conv=>whnf
   refine eZ.mk ⟨k,k+1,rfl,rfl,Pn.start hgk hsz hA⟩ bA ?_;rintro⟨(i:Int),(j:Int),_⟩ ⟨(u:Li 44),_⟩ ⟨i,j,hi1,hj1,hD⟩;replace hi1:_=(i:Int):=hi1;replace hj1:_=(j:Int):=hj1;subst hi1;subst hj1;replace hD:Pn JJ l u i j:=hD;have hlen:@ln (ah 44) u=@ln (ah 44) l:=hD.len;have hij:i<j:=hD.lt;have hjle:j<=@ln (ah 44) l:=hD.le;clear hK;refine gK fun K2 hK2=>?_
   by_cases hjl:j<@ln (ah 44) l
   ·have hd2:decide ((j:Int)<(@ln (ah 44) u:Nat))=true:=decide_eq_true au
    have hgj:u[j]?=some (gt 44 u j):=TP au
    repeat' first|refine iF ?_|apply B_<;>intro h hc|apply I_;intro h
    all_goals refine iw ?_
    ·exact⟨i+1,j+1,rfl,rfl,hD.keep hgj (by unfold JJ;simp_all)⟩
    ·exact⟨i,j+1,rfl,rfl,hD.skip hgj (by unfold JJ;simp_all)⟩
   ·have hd2:decide ((j:Int)<(@ln (ah 44) u:Nat))=false:=decide_eq_false au
    have hrg:∀ r:Li 44,rP 0 (i:Int) ((@ln (ah 44) (vS u (i:Int).toNat (@ln (ah 44) u:Int).toNat r):Nat):Int):=fun r=>by
      have h:=cpy_len (l:=u) (r:=r) (lo:=i) (hi:=@ln (ah 44) u) (by show i<=@ln (ah 44) u;omega) (Nat.le_refl _)
      rw [Int.toNat_natCast,Int.toNat_natCast];refine⟨au,au,?_⟩
      rw [h];show(i:Int)<=(@ln (ah 44) u:Nat);omega
    repeat' first|(refine jU ?_;first|(apply aP;focus (exact hrg _))|refine bO bK trivial ?_)|apply B_<;>intro h hc|apply I_;intro h
    all_goals refine iw ?_
    refine⟨[],[],_,_,[1],⟨rfl,rfl,rfl⟩,?_⟩
    conv=>whnf
    refine w_ ?_;repeat' (first|((with_reducible apply And.intro)<;>(first|(with_reducible refine iK ?_;apply rfl)|(with_reducible refine eY ?_;apply rfl)|(refine w_ ?_)))|(with_reducible apply trivial)|apply rfl|apply(Or.inl rfl)|apply(Or.inr rfl)|apply(Or.inr (Or.inl rfl))|apply trivial|(apply And.intro<;>(refine w_ ?_)))
    all_goals (first|exact pO (hD.fin (by show @ln (ah 44) l<=j;omega))|exact(hD.fin (by show @ln (ah 44) l<=j;omega)))
  ·exact⟨k+1,rfl,hkl,fun j y hj hy=>by
     rcases Nat.lt_succ_iff_lt_or_eq.1 hj with hj|rfl
     ·exact hA j y hj hy
     ·rw [hgk]at hy;cases hy;unfold JJ;simp_all⟩
 have hd:decide ((k:Int)<(@ln (ah 44) l:Nat))=false:=decide_eq_false au
 repeat' first|refine iF ?_|apply B_<;>intro h hc|apply I_;intro h
 all_goals refine iw ?_
 have hal:List.filter (α:=ah 44) JJ l=l:=Pn.all fun j y hy=>hA j y (by have:=(List.getElem?_eq_some_iff.1 hy).1;have:j<@ln (ah 44) l:=this;omega) hy
 rw [hal];refine⟨[],[],_,_,[0],⟨rfl,rfl,rfl⟩,?_⟩
 conv=>whnf
 exact bA
end
end Go.SX
namespace Go.Proofs
open Go.Shelf
noncomputable section
def YtpndeclljmdjkaaGreatDoor.CR:Go.Shelf.Ren:=⟨fun|6=>187|15=>177|14=>261|28=>257|29=>258|20=>329|21=>345|22=>346|23=>347|24=>348|25=>349|26=>350|27=>351|46=>395|47=>340|48=>341|49=>396|50=>397|57=>422|n=>n,fun|22=>43|24=>133|25=>255|3=>3|39=>266|0=>0|53=>346|55=>160|4=>4|46=>340|45=>339|50=>70|5=>5|9=>9|66=>419|70=>267|76=>447|77=>300|n=>n,fun|n=>n⟩
theorem YtpndeclljmdjkaaGreatDoor.Zu:Go.Proofs.SlLaysF0.n6 Tryz.prog YtpndeclljmdjkaaGreatDoor.CR:={
 mixed:=by kernel_rfl
 f6:=⟨Tryz.f187.name,by decide,Tryz.func187.trans (congrArg some (by kernel_rfl))⟩
 f14:=⟨Tryz.f261.name,by decide,Tryz.func261.trans (congrArg some (by kernel_rfl))⟩
 f15:=Tryz.func177.trans (congrArg some (by kernel_rfl))
 f20:=⟨Tryz.f329.name,by decide,Tryz.func329.trans (congrArg some (by kernel_rfl))⟩
 f21:=⟨Tryz.f345.name,by decide,Tryz.func345.trans (congrArg some (by kernel_rfl))⟩
 f22:=⟨Tryz.f346.name,by decide,Tryz.func346.trans (congrArg some (by kernel_rfl))⟩
 f23:=⟨Tryz.f347.name,by decide,Tryz.func347.trans (congrArg some (by kernel_rfl))⟩
 f24:=⟨Tryz.f348.name,by decide,Tryz.func348.trans (congrArg some (by kernel_rfl))⟩
 f25:=⟨Tryz.f349.name,by decide,Tryz.func349.trans (congrArg some (by kernel_rfl))⟩
 f26:=⟨Tryz.f350.name,by decide,Tryz.func350.trans (congrArg some (by kernel_rfl))⟩
 f27:=⟨Tryz.f351.name,by decide,Tryz.func351.trans (congrArg some (by kernel_rfl))⟩
 f28:=Tryz.func257.trans (congrArg some (by kernel_rfl))
 f29:=Tryz.func258.trans (congrArg some (by kernel_rfl))
 f46:=⟨Tryz.f395.name,by decide,Tryz.func395.trans (congrArg some (by kernel_rfl))⟩
 f47:=Tryz.func340.trans (congrArg some (by kernel_rfl))
 f48:=Tryz.func341.trans (congrArg some (by kernel_rfl))
 f49:=⟨Tryz.f396.name,by decide,Tryz.func396.trans (congrArg some (by kernel_rfl))⟩
 f50:=⟨Tryz.f397.name,by decide,Tryz.func397.trans (congrArg some (by kernel_rfl))⟩
 f57:=⟨Tryz.f422.name,by decide,Tryz.func422.trans (congrArg some (by kernel_rfl))⟩
 t0:=Tryz.underlying0
 a0:=Tryz.isAgg0
 z0:=Tryz.sizeOf0
 v0:=Tryz.zeroValue0
 t3:=Tryz.underlying3
 a3:=Tryz.isAgg3
 z3:=Tryz.sizeOf3
 v3:=Tryz.zeroValue3
 t4:=Tryz.underlying4
 a4:=Tryz.isAgg4
 z4:=Tryz.sizeOf4
 v4:=Tryz.zeroValue4
 t5:=Tryz.underlying5
 a5:=Tryz.isAgg5
 z5:=Tryz.sizeOf5
 v5:=Tryz.zeroValue5
 t9:=Tryz.underlying9
 a9:=Tryz.isAgg9
 z9:=Tryz.sizeOf9
 v9:=Tryz.zeroValue9
 t22:=Tryz.underlying43
 a22:=Tryz.isAgg43
 z22:=Tryz.sizeOf43
 v22:=Tryz.zeroValue43
 t25:=Tryz.underlying255
 a25:=Tryz.isAgg255
 z25:=Tryz.sizeOf255
 v25:=Tryz.zeroValue255
 t39:=Tryz.underlying266
 a39:=Tryz.isAgg266
 z39:=Tryz.sizeOf266
 v39:=Tryz.zeroValue266
 t45:=Tryz.underlying339
 a45:=Tryz.isAgg339
 z45:=Tryz.sizeOf339
 v45:=Tryz.zeroValue339
 t46:=Tryz.underlying340
 a46:=Tryz.isAgg340
 z46:=Tryz.sizeOf340
 v46:=Tryz.zeroValue340
 t50:=Tryz.underlying70
 a50:=Tryz.isAgg70
 z50:=Tryz.sizeOf70
 v50:=Tryz.zeroValue70
 t53:=Tryz.underlying346
 a53:=Tryz.isAgg346
 z53:=Tryz.sizeOf346
 v53:=Tryz.zeroValue346
 t55:=Tryz.underlying160
 a55:=Tryz.isAgg160
 z55:=Tryz.sizeOf160
 v55:=Tryz.zeroValue160
 t66:=Tryz.underlying419
 a66:=Tryz.isAgg419
 z66:=Tryz.sizeOf419
 v66:=Tryz.zeroValue419
 t70:=Tryz.underlying267
 a70:=Tryz.isAgg267
 z70:=Tryz.sizeOf267
 v70:=Tryz.zeroValue267
 t76:=Tryz.underlying447
 a76:=Tryz.isAgg447
 z76:=Tryz.sizeOf447
 v76:=Tryz.zeroValue447
 t77:=Tryz.underlying300
 a77:=Tryz.isAgg300
 z77:=Tryz.sizeOf300
 v77:=Tryz.zeroValue300 }
def YtpndeclljmdjkaaGreatDoor.VD:Go.Shelf.Ren:=⟨fun|5=>163|7=>241|n=>n,fun|22=>3|3=>3|4=>4|n=>n,fun|n=>n⟩
theorem YtpndeclljmdjkaaGreatDoor.laysC:Go.Proofs.SlLaysC2.n5 Tryz.prog YtpndeclljmdjkaaGreatDoor.VD:={
 mixed:=by kernel_rfl
 f5:=⟨Tryz.f163.name,by decide,Tryz.func163.trans (congrArg some (by kernel_rfl))⟩
 f7:=⟨Tryz.f241.name,by decide,Tryz.func241.trans (congrArg some (by kernel_rfl))⟩
 t3:=Tryz.underlying3
 a3:=Tryz.isAgg3
 z3:=Tryz.sizeOf3
 v3:=Tryz.zeroValue3
 t4:=Tryz.underlying4
 a4:=Tryz.isAgg4
 z4:=Tryz.sizeOf4
 v4:=Tryz.zeroValue4
 t22:=Tryz.underlying3
 a22:=Tryz.isAgg3
 z22:=Tryz.sizeOf3
 v22:=Tryz.zeroValue3 }
end
end Go.Proofs
namespace Go.Proofs.YtpndeclljmdjkaaGreatDoor
open List renaming getElem?_eq_getElem -> bZ
open List renaming length -> ln
open Go.RowKit Go.XK Go.Sort Go.Lib Go.Shelf Go.SX
noncomputable section
instance:Inhabited dQ:=⟨⟨0,0⟩⟩
def encS (x:dQ):List Value:=[.int .i64 x.At,.int .i64 x.Size]
abbrev cfS (x y:dQ):Int:=Lib.compareInt x.At y.At
theorem ltS (x y:dQ):ltOf cfS x y=decide (x.At<y.At):=by
 unfold ltOf cfS Lib.compareInt
 by_cases h1:x.At<y.At
 ·simp [h1]
 ·by_cases h2:y.At<x.At<;>simp [h1,h2]
theorem swoS:SWO (ltOf cfS) where
 irrefl x:=by rw [ltS];simp
 trans x y z h1 h2:=by rw [ltS]at *;simp at *;omega
 ntrans x y z h1 h2:=by rw [ltS]at *;simp at *;omega
theorem closureS (x y:dQ) (W:World):Calls Go.Proofs.Tryz.prog 188 #[.agg #[.int .i64 x.At,.int .i64 x.Size],.agg #[.int .i64 y.At,.int .i64 y.Size]] W fun e w'=>e=.returned (.int .i64 (cfS x y))/\∃ q os',w'=grow (W.drewN q) os':=by
 have hcon:=fun W'=>AnyG.cmp_Compare_int laysC x.At y.At W'
 change ∀ W',Calls Go.Proofs.Tryz.prog 163 _ _ _ at hcon;unfold cfS;generalize Lib.compareInt x.At y.At=r at hcon ⊢
 go_enter Go.Proofs.Tryz.func188,Go.Proofs.Tryz.ntmps188
 go_wp2_with (go_at_call 163;refine(hcon _).mono ?_;rintro e w' ⟨rfl,rfl⟩)
 go_ret
 exact⟨rfl,0,_,by rw [alloc_eq_grow,alloc_eq_grow,grow_grow];rfl⟩
theorem flat_get:∀ (l:List dQ) (t:Nat),t<l.length*2->(l.map encS).flatten[t]?=some ((encS (l.toArray[t / 2]!))[t % 2]!)
 |[],t,h=>by simp at h
 |x::r,0,_=>by simp [encS]
 |x::r,1,_=>by simp [encS]
 |x::r,t+2,h=>by
   have ih:=flat_get r t (by simp at h;omega)
   have e1:(t+2) / 2=t / 2+1:=by omega
   have e2:(t+2) % 2=t % 2:=by omega
   have hlt:t / 2<r.length:=by simp at h;omega
   rw [e1,e2];have e3:(List.map encS (x::r)).flatten[t+2]?=(List.map encS r).flatten[t]?:=by simp [encS]
   rw [e3,ih];simp [hlt]
theorem Bc (l:List dQ):(l.map encS).flatten.length=l.length*2:=by
 induction l with
 |nil=>rfl
 |cons x r ih=>rw [List.map_cons,List.flatten_cons,List.length_append,ih,List.length_cons];show 2+_=_;omega
theorem OM (l:List dQ):flatK encS 2 l.toArray=(l.map encS).flatten.toArray:=by
 apply Array.ext';apply List.ext_getElem?;intro t
 by_cases h:t<l.length*2
 ·have hs:t<(flatK encS 2 l.toArray).size:=by rw [size_flatK];simpa using h
  have h2:=get_flatK encS 2 l.toArray t (by simpa using h)
  rw [getElem!_pos (flatK encS 2 l.toArray) t hs]at h2;rw [Array.getElem?_toList,Array.getElem?_eq_getElem hs,h2,flat_get l t h]
 ·rw [List.getElem?_eq_none (by simp;omega),List.getElem?_eq_none (by rw [Bc];omega)]
theorem isAggS (w:World):(isAgg (CR.t 24)).run Go.Proofs.Tryz.prog w=.ok true w:=Go.Proofs.Tryz.isAgg133 w
theorem sizeS (w:World):(Go.sizeOf (CR.t 24)).run Go.Proofs.Tryz.prog w=.ok 2 w:=Go.Proofs.Tryz.sizeOf133 w
theorem XQ (blk off cap:Nat) (l:List dQ) (w:World) (hH:HoldsK encS 2 w blk off l.toArray) (hblk:blk<w.heap.size) (hsz:l.length<4611686018427387904) :
   Calls Go.Proofs.Tryz.prog 187 #[.slice (some ⟨blk,off,none⟩) l.length cap,.func (.func 188) #[] #[]] w fun e w' =>
     e=.returned (.tuple #[])/\∃ (t:List dQ) (n:Nat) (os:Array Obj),t.Perm l/\(∀ i j,i<j->j<t.length->t.toArray[i]!.At<=t.toArray[j]!.At)/\w'=grow (putRow id (Sort.ahead w n) blk off (t.map encS).flatten.toArray) os:=by
 have eg:∀ args w,(callFunc 188 args).run Go.Proofs.Tryz.prog w=.ok (.enter 188 args) w:=enters_of Go.Proofs.Tryz.func188 (by kernel_rfl) rfl
 have hcmp:CmpLays Go.Proofs.Tryz.prog 188 #[] encS 2 cfS blk off l.toArray.size w:=fun _ _ _ _ x y=>closureS x y _
 refine(AnyQ.slices_SortFunc Zu 2 isAggS sizeS encS (fun _=>rfl) (fun x v hv=>by simp [encS]at hv;rcases hv with rfl|rfl<;>rfl) cfS swoS 188 #[] blk off cap l.toArray w eg hcmp hH hblk (by simpa using hsz)).mono fun e w' ⟨he,d',n,os,hp,hs,hw⟩=>⟨he,d'.toList,n,os,?_,fun i j hij hj=>?_,?_⟩
 ·obtain⟨h1,_,h3⟩:=hp;have e1:d'.extract 0 l.toArray.size=d':=by rw [<- h1];exact Array.extract_size
  rw [e1,Array.extract_size]at h3;exact h3
 ·have h:=hs i j (Nat.zero_le _) hij (by rw [<- hp.1];simpa using hj)
  rw [ltS]at h;simp only [Array.toArray_toList];simpa using h
 ·rw [hw];unfold sortWorldK putRowK;rw [show d'=d'.toList.toArray by simp,OM]
theorem VP {w:World} {g o n cap K:Nat} {cur:Array Value} {e:TypeId} {xs:List Value} (hh:gT w g cur e) (hnc:n<=cap) (hcs:o+cap*K<=cur.size) (hx:xs.length=n*K) (htake:(cur.toList.drop o).take (n*K)=xs):Holds id w g o xs.toArray:=by
 obtain⟨fr,hh,hfr⟩:=hh.ex;have hm:n*K<=cap*K:=Nat.mul_le_mul_right _ hnc;intro j hj;have hj':j<n*K:=by simpa [hx] using hj
 have hf:w.frozen? ⟨g,o+j,none⟩=false:=by
   obtain⟨a,b⟩:=fr;simp only [World.frozen?,hh];rcases hfr with hfr|hfr
   ·cases hfr;simp
   ·simp only at hfr;simp;omega
 refine⟨?_,hf⟩;have e1:((cur.toList.drop o).take (n*K))[j]?=xs[j]?:=by rw [htake]
 rw [List.getElem?_take_of_lt hj',List.getElem?_drop]at e1;simp only [World.cell?,hh];simp only [Option.isSome_none,Bool.false_eq_true,if_false];rw [<- Array.getElem?_toList,e1];simp;rw [bZ au]
 rfl
theorem UZ (l:List dQ) (v:Value) (e:TypeId) (w:World) (h:gU w 0 e 2 v l.length (l.map encS).flatten) (hm8:l.length<=140737488355328) :
   Calls Go.Proofs.Tryz.prog 187 [v,.func (.func 188) #[] #[]].toArray w fun r w'=>r=.returned (.tuple #[])/\Mod (fun b=>v.ownBlock=some b) w w'/\∃ t:List dQ,t.Perm l/\(∀ i j,i<j->j<t.length->t.toArray[i]!.At<=t.toArray[j]!.At)/\gU w' 0 e 2 v t.length (t.map encS).flatten:=by
 obtain⟨h1,h2⟩:=h;rcases h2 with ⟨rfl,hn⟩|⟨g,o,cap,cur,rfl,hg,hh,hnc,hcm,hcs,htake⟩
 ·have hl:l=[]:=List.eq_nil_of_length_eq_zero hn;subst hl;refine(AnyF.slices_SortFunc_none Zu none 0 (.func (.func 188) #[] #[]) w).mono fun r w' ⟨he,hw⟩=>⟨he,?_⟩
  subst hw;exact⟨(Ext.refl _).mod _,[],.refl _,fun i j _ hj=>absurd hj (by simp),by simp,.inl ⟨rfl,rfl⟩⟩
 ·have hlt:g<w.heap.size:=hh.lt;have hH:=VP hh hnc hcs (Bc l) htake;have hH2:HoldsK encS 2 w g o l.toArray:=by unfold HoldsK;rw [OM];exact hH
  refine(XQ g o cap l w hH2 hlt au).mono fun r w' ⟨he,t,n,os,hp,hs,hw⟩=>⟨he,?_⟩
  subst hw;obtain⟨fr,hb,hfr⟩:=hh.ex;have hb2:=hb
  have e2:(grow (putRow id (Sort.ahead w n) g o (t.map encS).flatten.toArray) os).heap[g]?=some (.cells (putCells id o (t.map encS).flatten.toArray cur) e fr):=by
    rw [heap_grow_old _ _ (by simpa using hlt)]
    simp [putRow,mapBlock,Sort.ahead,Array.getElem?_modify,hb,onCells]
  have hgr:w.grownBy (grow (putRow id (Sort.ahead w n) g o (t.map encS).flatten.toArray) os) (some g):=by
    refine⟨rfl,rfl,rfl,by simp,fun k hk hne=>?_⟩
    rw [heap_grow_old _ _ (by simpa using hk)]
    have:g≠k:=fun e=>hne (by rw [e])
    simp [putRow,mapBlock,Sort.ahead,Array.getElem?_modify,this]
  have htl:t.length=l.length:=hp.length_eq;refine⟨Mod.wL hgr (fun k hk=>hk),t,hp,hs,Bc t,.inr ⟨g,o,cap,_,by rw [htl],hg,⟨⟨fr,e2,hfr.imp id fun h=>by simp [putCells];exact h⟩⟩,au,hcm,by simp [putCells];omega,?_⟩⟩
  apply List.ext_getElem?;intro j;have hf:=Bc t
  by_cases hj:j<t.length*2
  ·rw [List.getElem?_take_of_lt hj,List.getElem?_drop,Array.getElem?_toList];have hj2:o+j<cur.size:=by omega
   have hj3:j<(t.map encS).flatten.length:=by omega
   have hj4:o+j<o+(t.map encS).flatten.length:=by omega
   have hj5:o+j-o=j:=by omega
   generalize (t.map encS).flatten=F at hj3 ⊢;unfold putCells;simp [hj2,hj3]
  ·rw [List.getElem?_take_eq_none au,List.getElem?_eq_none au]
end
end Go.Proofs.YtpndeclljmdjkaaGreatDoor
namespace Go.SX
open List renaming getElem?_eq_getElem -> bZ
open List renaming length -> ln
open Go.XK Go.RowKit Go.Proofs.YtpndeclljmdjkaaGreatDoor
noncomputable section
section
variable {m:Mm}
theorem elts_sp {bC:List (List Value)}:∀ {l:List dQ},eH (KT 44) (eu 44) m l bC->bC.flatten=(l.map encS).flatten/\∀ x∈l,lC x.At/\lC x.Size:=by
 induction bC with
 |nil =>
   intro l h
   cases l with
   |nil=>exact⟨rfl,fun _ h=>by cases h⟩
   |cons x l=>obtain⟨h1,_⟩:=h;simp at h1
 |cons us bC ih =>
   intro l h
   cases l with
   |nil=>obtain⟨h1,_⟩:=h;simp at h1
   |cons x l =>
     obtain⟨h1,h2,h3⟩:=h;obtain⟨e1,e2⟩:=ih (l:=l) ⟨Nat.succ.inj h1,fun q hq=>h2 q (List.mem_cons_of_mem _ hq),fun i y hy=>h3 (i+1) y hy⟩
     obtain⟨us',h4,h5⟩:=h3 0 x rfl;cases h4;obtain⟨u,r,rfl,⟨rfl,h6⟩,u2,r2,rfl,⟨rfl,h7⟩,h8⟩:=h5;cases(show r2=[]from h8);refine⟨by rw [List.flatten_cons,e1];rfl,fun y hy=>?_⟩
     rcases List.mem_cons.1 hy with rfl|hy
     ·exact⟨h6,h7⟩
     ·exact e2 y hy
theorem sp_elts {l:List dQ} (h:∀ x∈l,lC x.At/\lC x.Size):eH (KT 44) (eu 44) m l (l.map encS):=by
 refine⟨List.length_map ..,fun q hq=>?_,fun i x hx=>?_⟩
 ·obtain⟨x,_,rfl⟩:=List.mem_map.1 hq;rfl
 ·have hm:=h x (List.mem_of_getElem? hx);exact⟨encS x,by rw [List.getElem?_map];exact congrArg _ hx,_,_,rfl,⟨rfl,hm.1⟩,_,_,rfl,⟨rfl,hm.2⟩,rfl⟩
end
abbrev yg (l:Li 44) (k:Nat):dQ:=gt 44 l k
theorem P8 {l:Li 44} {k:Nat} {x:ah 44} (h:l[k]?=some x):yg l k=x:=by
 show l.getD k (rE 44)=x;rw [List.getD_eq_getElem?_getD,h];rfl
theorem J9 {z:Option Bool} {l:Li 44}:HC E0 187 1 [.bT 0,.nL 188 [] []] [(0,.arr 133 z 44 l)] (fun s H n=>s=.jm []/\(∃ t:Li 44,List.Perm (α:=ah 44) t l/\(∀ i j:Nat,i<j->j<@ln (ah 44) t->(yg t i).At<=(yg t j).At)/\H=[(0,.arr 133 none 44 t)])/\n=1):=by
 refine⟨by unfold dA;kernel_rfl,fun m ids vs hG hm hn hH hv=>?_⟩
 obtain⟨v,bC,h1,h2,h3,_,h5⟩:=hH.sat 0 _ rfl;obtain⟨e1,e2⟩:=elts_sp h3;rw [e1]at h2
 have hvs:vs=[v,.func (.func 188) #[] #[]]:=by
   rw [aC]at hv;obtain⟨u,r,rfl,q1,q2⟩:=hv;rw [aC]at q2;obtain⟨u2,r2,rfl,q3,q4⟩:=q2;rw [aC]at q4;subst q4;rw [Den]at q1;rw [q1.1]at h1;cases h1;rw [Den]at q3;obtain⟨a,b,rfl,q5,q6⟩:=q3;rw [aC]at q5 q6;subst q5 q6;rfl
 subst hvs;have hB:l.length<=140737488355328:=jC h5;refine(UZ l v _ m.w h2 hB).mono fun e w' ⟨he,hmod,t,hp,hs,how⟩=>?_
 have hT:∀ b,v.ownBlock=some b->HT ids [(0,HB.arr 133 z 44 l)] b:=fun b hb=>⟨0,_,rfl,rfl,v,h1,qj ((Ep h2).1 hb)⟩
 have ED:∀ b,v.ownBlock=some b->¬ m.S b:=fun b hb=>by
   obtain⟨i,hb0,hi,hf⟩:=hT b hb;exact hH.vG i hb0 b hi hf
 have hin:∀ x∈t,lC x.At/\lC x.Size:=fun x hx=>e2 x (hp.mem_iff.1 hx)
 have k1:=sp_elts (m:=⟨w',m.S⟩) hin;have hlen:@ln (ah 44) t=@ln (ah 44) l:=hp.length_eq;have hL5:@ln (ah 44) t*BT 44<=WS:=by rw [hlen];exact h5
 refine⟨.tuple #[],m.S,ids,.jm [],_,he,⟨rfl,⟨t,hp,fun i j hij hj=>?_,rfl⟩,hn⟩,⟨hmod.os,hmod.tape,hmod.output,hmod.size,fun k hk hne=>hmod.block k hk fun e=>hne (hT k e)⟩,⟨fun b hb=>⟨hb,hmod.block b (hm b hb) fun e=>ED b e hb⟩,hmod.size⟩,fun b hb=>⟨Nat.lt_of_lt_of_le (hm b hb) hmod.size,.inl hb⟩,fun _ _=>rfl,au,Ba ⟨v,_,h1,?_,k1,trivial,hL5⟩ fun b hf=>?_,fun b ⟨i,hb0,hi,hf⟩=>.inl ?_,by rw [Den];exact⟨[],rfl,by rw [aC]⟩⟩
 ·have h:=hs i j hij hj;have hj:j<t.length:=hj;rw [getElem!_pos t.toArray i (by simp;omega),getElem!_pos t.toArray j (by simpa using hj)]at h
  have a1:=P8 (l:=t) (k:=i) (x:=t[i]) (bZ au)
  have a2:=P8 (l:=t) (k:=j) (x:=t[j]) (bZ hj);rw [a1,a2];simpa using h
 ·exact how
 ·exact hH.vG 0 _ b rfl hf
 ·rw [bG]at hi;split at hi
  ·rename_i e;cases hi;subst e;exact⟨0,_,rfl,hf⟩
  ·cases hi
@[reducible] def a_GQ:List SV->PR
 |[.v (.slice none 0 0),.nL 188 [] []]=>.ok (.jm [])
 |_=>.no
def F_Db:Fact E0:=⟨187,a_GQ,by unfold dA;kernel_rfl,by
 intro args m ids vs hG hm hv;unfold a_GQ;split
 ·have hvs:vs=[.slice none 0 0,.func (.func 188) #[] #[]]:=by
    rw [aC]at hv;obtain⟨u,r,rfl,q1,q2⟩:=hv;rw [aC]at q2;obtain⟨u2,r2,rfl,q3,q4⟩:=q2;rw [aC]at q4;subst q4;rw [Den]at q1;subst q1;rw [Den]at q3;obtain⟨a,b,rfl,q5,q6⟩:=q3;rw [aC]at q5 q6;subst q5 q6;rfl
  subst hvs;refine(Go.Proofs.AnyF.slices_SortFunc_none Zu none 0 (.func (.func 188) #[] #[]) m.w).mono fun e w' ⟨he,hw⟩=>?_
  subst hw;exact⟨.tuple #[],m.S,he,Ext.refl _,⟨fun b hb=>⟨hb,rfl⟩,Nat.le_refl _⟩,fun b hb=>⟨hm b hb,.inl hb⟩,by rw [Den];exact⟨[],rfl,by rw [aC]⟩⟩
 ·trivial⟩
end
end Go.SX
namespace Go.SX
open List renaming getElem?_eq_getElem -> bZ
open List renaming length -> ln
open Go.XK Go.RowKit
set_option maxHeartbeats 40000000
noncomputable section
def apR (a b:dQ):Bool:=decide (a.At+a.Size<=b.At)||decide (b.At+b.Size<=a.At)
def KA:List dQ->Bool
 |[]=>true
 |a::r=>r.all (apR a)&&KA r
def qh (l:Li 44):Bool:=KA (List.filter (α:=ah 44) JJ l)
def Js (l:Li 44):Prop:=∀ x:dQ,x∈l->0<=x.At/\x.At<=1099511627776/\x.Size<=1099511627776
theorem Kz:∀ l:List dQ,KA l=true↔l.Pairwise fun a b=>apR a b=true
 |[]=>by simp [KA]
 |a::r=>by rw [KA,Bool.and_eq_true,List.all_eq_true,List.pairwise_cons,Kz r]
theorem apR_symm {a b:dQ} (h:apR a b=true):apR b a=true:=by
 unfold apR at *;rw [Bool.or_comm];exact h
theorem yc {l:List dQ} {k:Nat} (h:k<l.length):yg l k=l[k]:=P8 (bZ h)
theorem O8 {l t:List dQ} (hp:t.Perm (l.filter JJ)) (hs:∀ i j:Nat,i<j->j<t.length->(yg t i).At<=(yg t j).At):qh l=true↔∀ k:Nat,0<k->k<t.length->(yg t (k-1)).At+(yg t (k-1)).Size<=(yg t k).At:=by
 have hpos:∀ k:Nat,k<t.length->0<(yg t k).Size:=fun k hk=>by
   have hm:t[k]∈l.filter JJ:=hp.mem_iff.1 (List.getElem_mem hk);have h:=(List.mem_filter.1 hm).2;rw [yc hk];unfold JJ at h;simpa using h
 have h1:qh l=true↔t.Pairwise fun a b=>apR a b=true:=by
   show KA (l.filter JJ)=true↔_;rw [Kz];exact(List.Perm.pairwise_iff (fun h=>apR_symm h) hp).symm
 rw [h1,List.pairwise_iff_getElem];constructor
 ·intro h k h0 hk;have h2:=h (k-1) k au hk au
  rw [<- yc (show k-1<t.length by omega),<- yc hk]at h2
  unfold apR at h2;rw [Bool.or_eq_true,decide_eq_true_iff,decide_eq_true_iff]at h2;have h3:=hs (k-1) k au hk
  have h4:=hpos k hk;omega
 ·intro h
  have key:∀ d i:Nat,i+1+d<t.length->(yg t i).At+(yg t i).Size<=(yg t (i+1+d)).At:=by
    intro d
    induction d with
    |zero=>intro i hi;exact h (i+1) (Nat.succ_pos _) hi
    |succ d ih =>
      intro i hi;have h5:=ih i au
      have h6:=hs (i+1+d) (i+1+(d+1)) au hi
      omega
  intro i j hi hj hij;have h7:=key (j-i-1) i au
  rw [show i+1+(j-i-1)=j by omega,yc hi,yc hj]at h7
  unfold apR;rw [Bool.or_eq_true,decide_eq_true_iff];exact .inl h7
theorem ap_yes {l t:List dQ} (hp:t.Perm (l.filter JJ)) (hs:∀ i j:Nat,i<j->j<t.length->(yg t i).At<=(yg t j).At) (h:∀ k:Nat,0<k->k<t.length->(yg t (k-1)).At+(yg t (k-1)).Size<=(yg t k).At):qh l=true:=(O8 hp hs).2 h
theorem ap_no {l t:List dQ} (hp:t.Perm (l.filter JJ)) (hs:∀ i j:Nat,i<j->j<t.length->(yg t i).At<=(yg t j).At) {k:Nat} (h0:0<k) (hk:k<t.length) (h:¬ (yg t (k-1)).At+(yg t (k-1)).Size<=(yg t k).At):qh l=false:=by
 cases e:qh l with
 |false=>rfl
 |true=>exact absurd ((O8 hp hs).1 e k h0 hk) h
def F_DY:Fact E0:=bM 184 Proofs.Tryz.f184 rfl rfl rfl [.n,.k 186 [] []] (.ok (.v (.slice none 0 0))) [] [BF] (by
   refine dP rfl rfl fun hk=>?_
   repeat' first|refine dM ?_|apply B_<;>intro h hc|apply I_;intro h
   all_goals conv=>whnf
   refine Or.inr (Or.inl ⟨1,?_⟩);conv=>whnf
   repeat' first|refine dM ?_|apply B_<;>intro h hc|apply I_;intro h
   all_goals conv=>whnf
   all_goals exact bA)
theorem den_lz {m:Mm} {ids:List Value} {z:Option Bool} {c:Nat} {l:Li c} {v:Value} (h:Den m ids (.aW z c l) v):Den m ids (.aW none c l) v:=by
 rw [Den]at h ⊢;obtain⟨bC,h1,h2,h3,h4⟩:=h;exact⟨bC,h1,h2,h3,trivial,h4.2⟩
def I_Fb:je E0:=kC 185 Proofs.Tryz.f185 rfl rfl
def I_Er:je E0:=kC 103 Proofs.Tryz.f103 rfl rfl
def I_FG:je E0:=kC 189 Proofs.Tryz.f189 rfl rfl
@[reducible] def a_GM:List SV->PR
 |[.aW z 44 l]=>.ob (Js l) (.b (qh l))
 |_=>.no
theorem o_GY:xU 85 a_GM:=by
 intro args m ids vs hG hm hv;unfold a_GM;split
 ·rename_i z l;intro hb
  replace hv:aC m ids [SV.aW none 44 l] vs:=by
    rw [aC]at hv ⊢;obtain⟨u,r,e,q1,q2⟩:=hv;exact⟨u,r,e,den_lz q1,q2⟩
  refine aZ (DB:=[F_DY,F_Db]) (IL:=[I_Fb,I_Er,I_FG]) (WL:=[]) (fn:=Proofs.Tryz.f85) rfl rfl rfl rfl rfl rfl (fun hk=>?_) m ids vs hG hm hv
  clear hG hm hv;simp only [know]at hk;obtain⟨Z,hZ⟩:∃ Z,qh l=Z:=⟨_,rfl⟩;rw [hZ];have hl1:@ln (ah 44) l<=140737488355328:=hk.1.2
  have hlb:(@ln (ah 44) []+@ln (ah 44) l)*BT 44<=140737488355328:=by
    rw [List.length_nil,Nat.zero_add];exact hk.1.1
  have hl2:@ln (ah 44) (@HAppend.hAppend (Li 44) (Li 44) (Li 44) _ [] l)<=140737488355328:=hl1
  repeat' first|(refine w_ ?_;first|(apply aP;focus (exact hlb))|refine bO bK trivial ?_|(refine Or.inl ⟨_,_,_,_,[2],OD hl2,rfl,rfl,rfl,rfl,rfl,(aK trivial),?_⟩;(rintro _ _ _ ⟨rfl,rfl,rfl⟩;refine aK (aK ?_)))|(refine Or.inl ⟨_,_,_,_,[3],J9 , rfl,rfl,rfl,rfl,rfl,(aK trivial),?_⟩;(rintro _ _ _ ⟨rfl,⟨t,hp,hs,rfl⟩,rfl⟩;refine aK (aK ?_))))|apply B_<;>intro h hc|apply I_;intro h
  all_goals conv=>whnf
  ·refine Or.inr (Or.inl ⟨1,?_⟩);conv=>whnf
   repeat' first|(refine w_ ?_;first|(apply aP;focus (exact hlb))|refine bO bK trivial ?_|(refine Or.inl ⟨_,_,_,_,[2],OD hl2,rfl,rfl,rfl,rfl,rfl,(aK trivial),?_⟩;(rintro _ _ _ ⟨rfl,rfl,rfl⟩;refine aK (aK ?_)))|(refine Or.inl ⟨_,_,_,_,[3],J9 , rfl,rfl,rfl,rfl,rfl,(aK trivial),?_⟩;(rintro _ _ _ ⟨rfl,⟨t,hp,hs,rfl⟩,rfl⟩;refine aK (aK ?_))))|apply B_<;>intro h hc|apply I_;intro h
   all_goals conv=>whnf
   have hl0:l=[]:=by assumption
   subst hl0;exact hZ
  ·have hp':List.Perm (α:=dQ) t (List.filter (α:=dQ) JJ l):=hp;have hln:@ln dQ t<=@ln dQ l:=by rw [hp'.length_eq];exact List.length_filter_le _ _
   have hB:∀ k:Nat,k<@ln (ah 44) t->0<=(yg t k).At/\(yg t k).At<=1099511627776/\0<(yg t k).Size/\(yg t k).Size<=1099511627776:=fun k hk=>by
     have hm:t[k]∈List.filter (α:=dQ) JJ l:=hp'.mem_iff.1 (List.getElem_mem hk);have h1:=List.mem_filter.1 hm;have h2:=hb _ h1.1;have h3:=h1.2;rw [yc (l:=t) hk];unfold JJ at h3;have h4:0<(t[k]:dQ).Size:=by simpa using h3
     exact⟨h2.1,h2.2.1,h4,h2.2.2⟩
   refine Or.inr (Or.inr ⟨[],[9],[],[],[1,7,8],[],?_⟩);conv=>whnf
   refine⟨fun(s:Int×Unit) (_:Unit)=>∃ k:Nat,s.1=k/\k<=@ln (ah 44) t/\∀ j:Nat,0<j->j<k->(yg t (j-1)).At+(yg t (j-1)).Size<=(yg t j).At,fun(s:Int×Unit) _=>((@ln (ah 44) t:Nat)-s.1).toNat,?_⟩
   conv=>whnf
   refine eZ.mk ⟨0,rfl,Nat.zero_le _,fun j h1 h2=>absurd h2 (Nat.not_lt_zero _)⟩ bA ?_
   rintro⟨(k:Int),_⟩ _ ⟨k,hk1,hk2,hA⟩;replace hk1:_=(k:Int):=hk1;subst hk1;replace hk2:k<=@ln (ah 44) t:=hk2;refine gK fun K hK=>?_
   by_cases hkl:k<@ln (ah 44) t
   ·have hd:decide ((k:Int)<(@ln (ah 44) t:Nat))=true:=decide_eq_true au
    have hB1:=hB k hkl
    by_cases hk0:k=0
    ·subst hk0
     repeat' first|refine iF ?_|apply B_<;>intro h hc|apply I_;intro h
     all_goals refine iw ?_
     exact⟨_,rfl,hkl,fun j h1 h2=>absurd h1 (Nat.not_lt.2 (Nat.le_of_lt_succ h2))⟩
    ·obtain⟨k,rfl⟩:∃ q,k=q+1:=⟨k-1,au⟩
     have hB2:=hB k au
     have e1:(((k+1:Nat):Int)-1).toNat=k:=by omega
     have e2:(((k+1:Nat):Int)).toNat=k+1:=by omega
     have hw:IntKind.i64.wrap ((gt 44 t (((k+1:Nat):Int)-1).toNat:dQ).At+(gt 44 t (((k+1:Nat):Int)-1).toNat:dQ).Size)=(yg t k).At+(yg t k).Size:=by
       rw [e1];exact kZ (n:=(yg t k).At+(yg t k).Size) ⟨au,au⟩
     have q1:lC (((k+1:Nat):Int)-1):=⟨au,au⟩
     repeat' first|refine iF ?_|apply B_<;>intro h hc|apply I_;intro h
     all_goals refine iw ?_
     ·refine(hZ.symm.trans (ap_no hp' hs (k:=k+1) au hkl fun hle=>?_)).symm
      have h9:¬ (_<=_):=h.2;rw [hw]at h9;exact h9 hle
     ·refine⟨_,rfl,hkl,fun j h1 h2=>?_⟩
      rcases Nat.lt_succ_iff_lt_or_eq.1 h2 with h2|rfl
      ·exact hA j h1 h2
      ·have h9:(((k+1:Nat):Int)=0)\/(IntKind.i64.wrap ((gt 44 t (((k+1:Nat):Int)-1).toNat:dQ).At+(gt 44 t (((k+1:Nat):Int)-1).toNat:dQ).Size)<=(gt 44 t (k+1):dQ).At):=by assumption
       rw [hw]at h9;rcases h9 with h9|h9
       ·omega
       ·exact h9
   have hd:decide ((k:Int)<(@ln (ah 44) t:Nat))=false:=decide_eq_false au
   have hZ2:Z=true:=hZ.symm.trans (ap_yes hp' hs fun j h1 h2=>hA j h1 (by have:j<@ln (ah 44) t:=h2;omega))
   repeat' first|refine iF ?_|apply B_<;>intro h hc|apply I_;intro h
   all_goals refine iw ?_
   all_goals exact hZ2.symm
 ·trivial
def F_An:Fact E0:=Fact.co [.aW none 44 []] ⟨85,a_GM,by unfold dA;kernel_rfl,o_GY⟩
end
end Go.SX
