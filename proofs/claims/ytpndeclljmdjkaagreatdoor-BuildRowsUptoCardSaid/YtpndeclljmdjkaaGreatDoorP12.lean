/- A part of the proof (texts Srt, B34, B61, B71, B57, Bld, BldH, B45). -/
import Derived.Ground.Names2Prog
import Derived.Ground.NamesProg
import Derived.Lib.RowBridge
import Derived.Shelf.Slices.CompactI
import Derived.Shelf.Slices.In.SortNone
import Derived.Shelf.Sort.Plain
import Derived.Shelf.Strings.Builder1
import Derived.Sort.OwnSortedInts
import Derived.Test.YtpndeclljmdjkaaGreatDoorP08
import Derived.Test.YtpndeclljmdjkaaGreatDoorP10
set_option linter.all false
set_option maxRecDepth 100000
namespace Go.Proofs
open Go.Shelf
def YtpndeclljmdjkaaGreatDoor.Oj:Go.Shelf.Ren:=⟨fun|189=>71|125=>177|257=>176|128=>257|129=>258|294=>248|295=>249|296=>250|297=>251|298=>252|299=>253|216=>254|300=>255|301=>256|328=>339|329=>340|330=>341|331=>342|332=>343|215=>241|343=>394|n=>n,fun|28=>33|3=>3|46=>266|0=>0|51=>346|53=>160|4=>4|183=>340|182=>339|131=>70|5=>5|9=>9|218=>419|222=>267|228=>447|229=>300|n=>n,fun|n=>n⟩
theorem YtpndeclljmdjkaaGreatDoor.Tp:Go.Proofs.Lays.n189 Tryz.prog YtpndeclljmdjkaaGreatDoor.Oj:={
 mixed:=by kernel_rfl
 f125:=Tryz.func177.trans (congrArg some (by kernel_rfl))
 f128:=Tryz.func257.trans (congrArg some (by kernel_rfl))
 f129:=Tryz.func258.trans (congrArg some (by kernel_rfl))
 f189:=Tryz.func71.trans (congrArg some (by kernel_rfl))
 f215:=Tryz.func241.trans (congrArg some (by kernel_rfl))
 f216:=Tryz.func254.trans (congrArg some (by kernel_rfl))
 f257:=Tryz.func176.trans (congrArg some (by kernel_rfl))
 f294:=Tryz.func248.trans (congrArg some (by kernel_rfl))
 f295:=Tryz.func249.trans (congrArg some (by kernel_rfl))
 f296:=Tryz.func250.trans (congrArg some (by kernel_rfl))
 f297:=Tryz.func251.trans (congrArg some (by kernel_rfl))
 f298:=Tryz.func252.trans (congrArg some (by kernel_rfl))
 f299:=Tryz.func253.trans (congrArg some (by kernel_rfl))
 f300:=Tryz.func255.trans (congrArg some (by kernel_rfl))
 f301:=Tryz.func256.trans (congrArg some (by kernel_rfl))
 f328:=Tryz.func339.trans (congrArg some (by kernel_rfl))
 f329:=Tryz.func340.trans (congrArg some (by kernel_rfl))
 f330:=Tryz.func341.trans (congrArg some (by kernel_rfl))
 f331:=Tryz.func342.trans (congrArg some (by kernel_rfl))
 f332:=Tryz.func343.trans (congrArg some (by kernel_rfl))
 f343:=Tryz.func394.trans (congrArg some (by kernel_rfl))
 t0:=Tryz.underlying0
 a0:=Tryz.isAgg0
 z0:=Tryz.sizeOf0
 v0:=Tryz.zeroValue0
 t3:=Tryz.underlying3
 a3:=Tryz.isAgg3
 z3:=Tryz.sizeOf3
 v3:=Tryz.zeroValue3
 t4:=Tryz.underlying4
 a4:=Tryz.isAgg4
 z4:=Tryz.sizeOf4
 v4:=Tryz.zeroValue4
 t5:=Tryz.underlying5
 a5:=Tryz.isAgg5
 z5:=Tryz.sizeOf5
 v5:=Tryz.zeroValue5
 t9:=Tryz.underlying9
 a9:=Tryz.isAgg9
 z9:=Tryz.sizeOf9
 v9:=Tryz.zeroValue9
 t28:=Tryz.underlying33
 a28:=Tryz.isAgg33
 z28:=Tryz.sizeOf33
 v28:=Tryz.zeroValue33
 t46:=Tryz.underlying266
 a46:=Tryz.isAgg266
 z46:=Tryz.sizeOf266
 v46:=Tryz.zeroValue266
 t51:=Tryz.underlying346
 a51:=Tryz.isAgg346
 z51:=Tryz.sizeOf346
 v51:=Tryz.zeroValue346
 t53:=Tryz.underlying160
 a53:=Tryz.isAgg160
 z53:=Tryz.sizeOf160
 v53:=Tryz.zeroValue160
 t131:=Tryz.underlying70
 a131:=Tryz.isAgg70
 z131:=Tryz.sizeOf70
 v131:=Tryz.zeroValue70
 t182:=Tryz.underlying339
 a182:=Tryz.isAgg339
 z182:=Tryz.sizeOf339
 v182:=Tryz.zeroValue339
 t183:=Tryz.underlying340
 a183:=Tryz.isAgg340
 z183:=Tryz.sizeOf340
 v183:=Tryz.zeroValue340
 t218:=Tryz.underlying419
 a218:=Tryz.isAgg419
 z218:=Tryz.sizeOf419
 v218:=Tryz.zeroValue419
 t222:=Tryz.underlying267
 a222:=Tryz.isAgg267
 z222:=Tryz.sizeOf267
 v222:=Tryz.zeroValue267
 t228:=Tryz.underlying447
 a228:=Tryz.isAgg447
 z228:=Tryz.sizeOf447
 v228:=Tryz.zeroValue447
 t229:=Tryz.underlying300
 a229:=Tryz.isAgg300
 z229:=Tryz.sizeOf300
 v229:=Tryz.zeroValue300 }
def YtpndeclljmdjkaaGreatDoor.QM:Go.Shelf.Ren:=⟨fun|20=>361|n=>n,fun|22=>33|3=>3|4=>4|0=>0|n=>n,fun|n=>n⟩
theorem YtpndeclljmdjkaaGreatDoor.Zv:Go.Proofs.Lays2.n20 Tryz.prog YtpndeclljmdjkaaGreatDoor.QM:={
 mixed:=by kernel_rfl
 f20:=Tryz.func361.trans (congrArg some (by kernel_rfl))
 t0:=Tryz.underlying0
 a0:=Tryz.isAgg0
 z0:=Tryz.sizeOf0
 v0:=Tryz.zeroValue0
 t3:=Tryz.underlying3
 a3:=Tryz.isAgg3
 z3:=Tryz.sizeOf3
 v3:=Tryz.zeroValue3
 t4:=Tryz.underlying4
 a4:=Tryz.isAgg4
 z4:=Tryz.sizeOf4
 v4:=Tryz.zeroValue4
 t22:=Tryz.underlying33
 a22:=Tryz.isAgg33
 z22:=Tryz.sizeOf33
 v22:=Tryz.zeroValue33
 i3:=by kernel_rfl }
end Go.Proofs
namespace Go.Proofs.YtpndeclljmdjkaaGreatDoor
open List renaming getD_eq_getElem?_getD -> fI
open Int renaming eq_ofNat_of_zero_le -> cO,toNat_natCast -> bP
open List renaming length -> ln
open Go.RowKit Go.XK Go.Sort
theorem sort_at (blk off cap:Nat) (zs:List Int) (w:World) (hH:Holds (Value.int .i64) w blk off zs.toArray) (hblk:blk<w.heap.size) (hsz:zs.length<4611686018427387904) :
   Calls Go.Proofs.Tryz.prog 71 #[.slice (some ⟨blk,off,none⟩) zs.length cap] w fun e w' =>
     e=.returned (.tuple #[])/\∃ n os,w'=grow (putRow (Value.int .i64) (Sort.ahead w n) blk off (zs.mergeSort fun x y=>decide (x<=y)).toArray) os:=Any.slices_Sort_int Tp blk off cap zs w hH hblk hsz
theorem U0 (p:Option Addr) (cap:Nat) (w:World):Calls Go.Proofs.Tryz.prog 71 #[.slice p 0 cap] w fun e w'=>e=.returned (.tuple #[])/\w'=w :=
 calls_of_every_depth fun D=>AnyS.slices_Sort_int_none_in Tp D p cap w
theorem Ht {w:World} {g n off:Nat} {os:Array Obj} {cur:Array Value} {e:TypeId} {fr:Nat×Nat} (d:Array Int) (hb:w.heap[g]?=some (.cells cur e fr)) :
   (grow (putRow (Value.int .i64) (Sort.ahead w n) g off d) os).heap[g]?=some (.cells (putCells (Value.int .i64) off d cur) e fr):=by
 have hg:g<w.heap.size:=(Array.getElem?_eq_some_iff.1 hb).1;rw [heap_grow_old _ _ (by simpa using hg)]
 simp [putRow,mapBlock,Sort.ahead,Array.getElem?_modify,hb,onCells]
theorem DZ {w:World} {g n off:Nat} {os:Array Obj} (d:Array Int):w.grownBy (grow (putRow (Value.int .i64) (Sort.ahead w n) g off d) os) (some g):=by
 refine⟨rfl,rfl,rfl,by simp,fun k hk hne=>?_⟩
 rw [heap_grow_old _ _ (by simpa using hk)]
 have:g≠k:=fun e=>hne (by rw [e])
 simp [putRow,mapBlock,Sort.ahead,Array.getElem?_modify,this]
theorem XR (l:List Int) (v:Value) (base:Nat) (w:World) (h:gU w base 3 1 v l.length (l.map (Value.int .i64))) (hm8:l.length<=140737488355328) :
   Calls Go.Proofs.Tryz.prog 71 [v].toArray w fun e w'=>e=.returned (.tuple #[])/\Mod (fun b=>v.ownBlock=some b) w w'/\gU w' base 3 1 v l.length ((l.mergeSort fun x y=>decide (x<=y)).map (Value.int .i64)):=by
 have hlen:(l.mergeSort fun x y=>decide (x<=y)).length=l.length:=List.length_mergeSort ..
 obtain⟨h1,h2⟩:=h;rcases h2 with ⟨rfl,hn⟩|⟨g,o,cap,cur,rfl,hg,hh,hnc,hcm,hcs,htake⟩
 ·have hl:l=[]:=List.eq_nil_of_length_eq_zero hn;subst hl;refine(U0 none 0 w).mono fun e w' ⟨he,hw⟩=>⟨he,?_⟩
  subst hw;exact⟨(Ext.refl _).mod _,by simp,.inl ⟨rfl,rfl⟩⟩
 ·have hlt:g<w.heap.size:=hh.lt;obtain⟨fr,hh,hfr⟩:=hh.ex;rw [Nat.mul_one]at htake hcs
  have hH:Holds (Value.int .i64) w g o l.toArray:=by
    intro j hj;have hj':j<l.length:=by simpa using hj
    have hf:w.frozen? ⟨g,o+j,none⟩=false:=by
      obtain⟨a,b⟩:=fr;simp only [World.frozen?,hh];rcases hfr with hfr|hfr
      ·cases hfr;simp
      ·simp only at hfr;simp;omega
    refine⟨?_,hf⟩;have e1:((cur.toList.drop o).take l.length)[j]?=(l.map (Value.int .i64))[j]?:=by rw [htake]
    rw [List.getElem?_take_of_lt hj',List.getElem?_drop]at e1;simp only [World.cell?,hh];simp only [Option.isSome_none,Bool.false_eq_true,if_false];rw [<- Array.getElem?_toList,e1];simp [hj']
  refine(sort_at g o cap l w hH hlt au).mono fun e w' ⟨he,n,os,hw⟩=>⟨he,?_⟩
  subst hw;refine⟨Mod.wL (DZ _) (fun k hk=>hk),by simp [hlen],.inr ⟨g,o,cap,_,rfl,hg,⟨⟨fr,Ht _ hh,hfr.imp id fun h=>by simp [putCells];exact h⟩⟩,hnc,hcm,by simp [putCells];omega,?_⟩⟩
  rw [Nat.mul_one];apply List.ext_getElem?;intro j
  by_cases hj:j<l.length
  ·rw [List.getElem?_take_of_lt hj,List.getElem?_drop,Array.getElem?_toList];have hj2:o+j<cur.size:=by omega
   have hj3:j<(l.mergeSort fun x y=>decide (x<=y)).length:=by omega
   simp [putCells,hj2,hj3,hj]
  ·rw [List.getElem?_take_eq_none au,List.getElem?_eq_none (by simp;omega)]
theorem MQ (p:Option Addr) (cap:Nat) (w:World):Calls Go.Proofs.Tryz.prog 361 #[.slice p 0 cap] w fun e w'=>e=.returned (.slice p 0 cap)/\w'=w:=Any.slices_Compact_int_empty Zv p cap w
theorem Ri (blk off cap:Nat) (zs:List Int) (w:World) (hH:Holds (Value.int .i64) w blk off zs.toArray) (hsz:zs.length<=9223372036854775807) (hcap:zs.length<=cap) :
   Calls Go.Proofs.Tryz.prog 361 #[.slice (some ⟨blk,off,none⟩) zs.length cap] w fun e w'=>e=.returned (.slice (some ⟨blk,off,none⟩) (Lib.compact zs).length cap)/\∃ q,w'=putRow (Value.int .i64) (Sort.ahead w q) blk off (Lib.compact zs++List.replicate (zs.length-(Lib.compact zs).length) 0).toArray:=Any.slices_Compact_int Zv blk off cap zs w hH hsz hcap
theorem OY (l:List Int) (v:Value) (base:Nat) (w:World) (h:gU w base 3 1 v l.length (l.map (Value.int .i64))) (hm8:l.length<=140737488355328) :
   Calls Go.Proofs.Tryz.prog 361 [v].toArray w fun e w'=>∃ v',e=.returned v'/\Mod (fun b=>v.ownBlock=some b) w w'/\gU w' base 3 1 v' (Lib.compact l).length ((Lib.compact l).map (Value.int .i64))/\∀ b,SX.jI v'=some b->v.ownBlock=some b:=by
 have hle:=Lib.compact_length_le l;obtain⟨h1,h2⟩:=h;rcases h2 with ⟨rfl,hn⟩|⟨g,o,cap,cur,rfl,hg,hh,hnc,hcm,hcs,htake⟩
 ·have hl:l=[]:=List.eq_nil_of_length_eq_zero hn;subst hl;refine(MQ none 0 w).mono fun e w' ⟨he,hw⟩=>⟨_,he,?_⟩
  subst hw;exact⟨(Ext.refl _).mod _,⟨by simp,.inl ⟨rfl,by have:=hle;simpa using this⟩⟩,fun b hb=>by cases hb⟩
 ·obtain⟨fr,hh,hfr⟩:=hh.ex;rw [Nat.mul_one]at htake hcs
  have hH:Holds (Value.int .i64) w g o l.toArray:=by
    intro j hj;have hj':j<l.length:=by simpa using hj
    have hf:w.frozen? ⟨g,o+j,none⟩=false:=by
      obtain⟨a,b⟩:=fr;simp only [World.frozen?,hh];rcases hfr with hfr|hfr
      ·cases hfr;simp
      ·simp only at hfr;simp;omega
    refine⟨?_,hf⟩;have e1:((cur.toList.drop o).take l.length)[j]?=(l.map (Value.int .i64))[j]?:=by rw [htake]
    rw [List.getElem?_take_of_lt hj',List.getElem?_drop]at e1;simp only [World.cell?,hh];simp only [Option.isSome_none,Bool.false_eq_true,if_false];rw [<- Array.getElem?_toList,e1];simp [hj']
  refine(Ri g o cap l w hH au hnc).mono fun e w' ⟨he,n,hw⟩=>⟨_,he,?_⟩
  generalize hD:(Lib.compact l++List.replicate (l.length-(Lib.compact l).length) 0)=D at hw;have hD1:∀ j (h:j<(Lib.compact l).length),D[j]?=some (Lib.compact l)[j]:=fun j h=>by rw [<- hD,List.getElem?_append_left h,List.getElem?_eq_getElem h]
  have hDl:D.length=l.length:=by rw [<- hD];simp;omega
  rw [<- grow_empty (putRow _ _ _ _ _)]at hw;subst hw;refine⟨Mod.wL (DZ _) (fun k hk=>hk),⟨by simp,.inr ⟨g,o,cap,_,rfl,hg,⟨⟨fr,Ht _ hh,hfr.imp id fun h=>by simp [putCells];exact h⟩⟩,au,hcm,by simp [putCells];omega,?_⟩⟩,fun b hb=>hb⟩
  rw [Nat.mul_one];apply List.ext_getElem?;intro j
  by_cases hj:j<(Lib.compact l).length
  ·rw [List.getElem?_take_of_lt hj,List.getElem?_drop,Array.getElem?_toList];have hj2:o+j<cur.size:=by omega
   have hj3:j<D.length:=by omega
   have hj4:=hD1 j hj;rw [List.getElem?_eq_getElem hj3]at hj4;have hj5:=Option.some.inj hj4;simp [putCells,hj2,hj3,hj,hj5]
  ·rw [List.getElem?_take_eq_none au,List.getElem?_eq_none (by simp;omega)]
end Go.Proofs.YtpndeclljmdjkaaGreatDoor
namespace Go.SX
open List renaming getD_eq_getElem?_getD -> fI
open Int renaming eq_ofNat_of_zero_le -> cO,toNat_natCast -> bP
open List renaming length -> ln
open Go.XK Go.RowKit
def DX (l:List Int):Li 0:=l.mergeSort fun x y=>decide (x<=y)
def Oz (l:List Int):Li 0:=(Lib.compact l:List Int)
theorem J8 {l:List Int} {x:Int} (h:x∈(Lib.compact l:List Int)):x∈l:=by
 unfold Lib.compact Lib.compactUpTo at h;obtain⟨j,h1,rfl⟩:=List.mem_map.1 h;have hj:=List.mem_range.1 (List.mem_filter.1 h1).1;rw [getElem!_pos l.toArray j (by simpa using hj)]
 simp
section
variable {m:Mm} {ids:List Value}
def TD0 (x:Int):List CP:=[CP.int x]
theorem OV {l:Li 0} {bC:List (List Value)} (h:eH (KT 0) (eu 0) m l bC):bC.flatten=l.map (Value.int .i64)/\∀ x∈l,lC x:=by
 have key:∀ (l:List Int) (bC:List (List Value)),eH 1 TD0 m l bC->bC.flatten=l.map (Value.int .i64)/\∀ x∈l,lC x:=by
   intro l
   induction l with
   |nil=>intro bC h;obtain⟨h1,_⟩:=h;cases bC with
     |nil=>exact⟨rfl,fun _ h=>by cases h⟩
     |cons=>simp at h1
   |cons x l ih =>
     intro bC h;obtain⟨h1,h2,h3⟩:=h
     cases bC with
     |nil=>simp at h1
     |cons us bC =>
       obtain⟨e1,e2⟩:=ih bC ⟨by simpa using h1,fun q hq=>h2 q (List.mem_cons_of_mem _ hq),fun i y hy=>by simpa using h3 (i+1) y (by simpa using hy)⟩
       obtain⟨us',h4,h5⟩:=h3 0 x rfl;cases h4;obtain⟨u,r,rfl,⟨rfl,h6⟩,h7⟩:=h5;cases(show r=[]from h7);refine⟨by rw [List.flatten_cons,e1];rfl,fun y hy=>?_⟩
       rcases List.mem_cons.1 hy with rfl|hy
       ·exact h6
       ·exact e2 y hy
 exact key l bC h
theorem Ot {l:List Int} (h:∀ x∈l,lC x):eH (KT 0) (eu 0) m l (l.map fun x=>[Value.int .i64 x])/\(l.map fun x=>[Value.int .i64 x]).flatten=l.map (Value.int .i64):=by
 refine⟨⟨List.length_map ..,fun q hq=>?_,fun i x hx=>?_⟩,?_⟩
 ·obtain⟨x,_,rfl⟩:=List.mem_map.1 hq;rfl
 ·refine⟨[.int .i64 x],by rw [List.getElem?_map];exact congrArg _ hx,_,[],rfl,⟨rfl,h x (List.mem_of_getElem? hx)⟩,rfl⟩
 ·induction l with
  |nil=>rfl
  |cons x l ih=>rw [List.map_cons,List.flatten_cons,List.map_cons,ih fun y hy=>h y (List.mem_cons_of_mem _ hy)];rfl
theorem Ba {i:Nat} {hb:HB} (hs:jG m ids i hb) (hf:∀ b,Fp ids i hb b->¬ m.S b):pQ m ids [(i,hb)]:=by
 have one:∀ j h,lk [(i,hb)] j=some h->j=i/\h=hb:=fun j h hl=>by
   rw [bG]at hl;split at hl
   ·rename_i e;cases hl;exact⟨e.symm,rfl⟩
   ·cases hl
 refine⟨fun j h hl=>?_,fun j h k h' hl hl' hne=>?_,fun j h b hl=>?_⟩
 ·obtain⟨rfl,rfl⟩:=one j h hl;exact hs
 ·obtain⟨rfl,_⟩:=one j h hl;obtain⟨rfl,_⟩:=one k h' hl';exact absurd rfl hne
 ·obtain⟨rfl,rfl⟩:=one j h hl;exact hf b
theorem Ep {v:Value} {e:TypeId} {K n base:Nat} {w:World} {xs:List Value} (h:gU w base e K v n xs) {b:Nat}:v.ownBlock=some b↔jI v=some b:=by
 obtain⟨ad,_,rfl,_⟩:=h.reads.len;cases ad<;>simp [Value.ownBlock,jI]
end
theorem Bb (z:Option Bool) (l:Li 0):HC E0 71 1 [.bT 0] [(0,.arr 3 z 0 l)] (fun s H n=>s=.jm []/\H=[(0,.arr 3 none 0 (DX l))]/\n=1):=by
 refine⟨by unfold dA;kernel_rfl,fun m ids vs hG hm hn hH hv=>?_⟩
 obtain⟨v,bC,h1,h2,h3,_,h5⟩:=hH.sat 0 _ rfl;obtain⟨e1,e2⟩:=OV h3;rw [e1]at h2
 have hvs:vs=[v]:=by
   rw [aC]at hv;obtain⟨u,r,rfl,q1,q2⟩:=hv;rw [aC]at q2;subst q2;rw [Den]at q1;rw [q1.1]at h1;cases h1;rfl
 subst hvs;have hB:l.length<=140737488355328:=jC h5;refine(Go.Proofs.YtpndeclljmdjkaaGreatDoor.XR l v 0 m.w h2 hB).mono fun e w' ⟨he,hmod,how⟩=>?_
 have hT:∀ b,v.ownBlock=some b->HT ids [(0,HB.arr 3 z 0 l)] b:=fun b hb=>⟨0,_,rfl,rfl,v,h1,qj ((Ep h2).1 hb)⟩
 have ED:∀ b,v.ownBlock=some b->¬ m.S b:=fun b hb=>by
   obtain⟨i,hb0,hi,hf⟩:=hT b hb;exact hH.vG i hb0 b hi hf
 have hin:∀ x∈DX l,lC x:=fun x hx=>e2 x (List.mem_mergeSort.1 hx)
 obtain⟨k1,k2⟩:=Ot (m:=⟨w',m.S⟩) hin;have hlen:(DX l).length=l.length:=List.length_mergeSort ..;refine⟨.tuple #[],m.S,ids,.jm [],_,he,⟨rfl,rfl,hn⟩,⟨hmod.os,hmod.tape,hmod.output,hmod.size,fun k hk hne=>hmod.block k hk fun e=>hne (hT k e)⟩,⟨fun b hb=>⟨hb,hmod.block b (hm b hb) fun e=>ED b e hb⟩,hmod.size⟩,fun b hb=>⟨Nat.lt_of_lt_of_le (hm b hb) hmod.size,.inl hb⟩,fun _ _=>rfl,au,Ba ⟨v,_,h1,?_,k1,trivial,by rw [hlen];exact h5⟩ fun b hf=>?_,fun b ⟨i,hb0,hi,hf⟩=>.inl ?_,by rw [Den];exact⟨[],rfl,by rw [aC]⟩⟩
 ·rw [k2,hlen];exact how
 ·exact hH.vG 0 _ b rfl hf
 ·rw [bG]at hi;split at hi
  ·rename_i e;cases hi;subst e;exact⟨0,_,rfl,hf⟩
  ·cases hi
theorem Hu (z:Option Bool) (l:Li 0):HC E0 361 1 [.bT 0] [(0,.arr 3 z 0 l)] (fun s H n=>s=.bT 1/\H=[(1,.arr 3 none 0 (Oz l))]/\n=2):=by
 refine⟨by unfold dA;kernel_rfl,fun m ids vs hG hm hn hH hv=>?_⟩
 obtain⟨v,bC,h1,h2,h3,_,h5⟩:=hH.sat 0 _ rfl;obtain⟨e1,e2⟩:=OV h3;rw [e1]at h2
 have hvs:vs=[v]:=by
   rw [aC]at hv;obtain⟨u,r,rfl,q1,q2⟩:=hv;rw [aC]at q2;subst q2;rw [Den]at q1;rw [q1.1]at h1;cases h1;rfl
 subst hvs;have hB:l.length<=140737488355328:=jC h5;refine(Go.Proofs.YtpndeclljmdjkaaGreatDoor.OY l v 0 m.w h2 hB).mono fun e w' ⟨v',he,hmod,how,hbl⟩=>?_
 have hT:∀ b,v.ownBlock=some b->HT ids [(0,HB.arr 3 z 0 l)] b:=fun b hb=>⟨0,_,rfl,rfl,v,h1,qj ((Ep h2).1 hb)⟩
 have ED:∀ b,v.ownBlock=some b->¬ m.S b:=fun b hb=>by
   obtain⟨i,hb0,hi,hf⟩:=hT b hb;exact hH.vG i hb0 b hi hf
 have hin:∀ x∈Oz l,lC x:=fun x hx=>e2 x (J8 hx)
 obtain⟨k1,k2⟩:=Ot (m:=⟨w',m.S⟩) hin;have hlen:(Oz l).length<=l.length:=Lib.compact_length_le (α:=Int) l;have hid:(ids++[v'])[1]?=some v':=by rw [List.getElem?_append_right au,hn];rfl
 have hfp:∀ b,Fp (ids++[v']) 1 (HB.arr 3 none 0 (Oz l)) b->v.ownBlock=some b:=fun b ⟨_,u,q1,q2⟩=>by
   rw [hid]at q1;cases q1;exact hbl b (qR (yu how) q2)
 refine⟨v',m.S,ids++[v'],.bT 1,_,he,⟨rfl,rfl,by simp [hn]⟩,⟨hmod.os,hmod.tape,hmod.output,hmod.size,fun k hk hne=>hmod.block k hk fun e=>hne (hT k e)⟩,⟨fun b hb=>⟨hb,hmod.block b (hm b hb) fun e=>ED b e hb⟩,hmod.size⟩,fun b hb=>⟨Nat.lt_of_lt_of_le (hm b hb) hmod.size,.inl hb⟩,fun i hi=>by rw [List.getElem?_append_left au],by simp [hn],Ba ⟨v',_,hid,?_,k1,trivial,Nat.le_trans (Nat.mul_le_mul_right _ hlen) h5⟩ fun b hf=>ED b (hfp b hf),fun b ⟨i,hb0,hi,hf⟩=>.inl ?_,by rw [Den];exact⟨hid,yu how⟩⟩
 ·rw [k2];exact how
 ·rw [bG]at hi;split at hi
  ·rename_i e;cases hi;subst e;exact hT b (hfp b hf)
  ·cases hi
set_option maxHeartbeats 40000000
abbrev Rows:=List (List Int)
def isr (l:List Int):List Int:=DX l
def icp (l:List Int):List Int:=Oz l
def aQ (o:Rows) (v:Nat):List Int:=o.getD v []
def kW (aA:List kX) (k:Nat):kX:=gt 78 aA k
def zK (n:Int) (aA:List kX):Nat->Rows
 |0=>List.replicate n.toNat []
 |k+1=>(zK n aA k).set (kW aA k).From.toNat (aQ (zK n aA k) (kW aA k).From.toNat++[(kW aA k).To])
def nxI (o:Rows) (v:Nat):Rows:=(o.set v (isr (aQ o v))).set v (icp (aQ (o.set v (isr (aQ o v))) v))
def YP (o:Rows):Nat->Rows
 |0=>o
 |k+1=>nxI (YP o k) k
def iP (n:Int) (aA:List kX):Rows:=YP (zK n aA aA.length) n.toNat
def arcOk (n:Int) (a:kX):Prop:=0<=a.From/\a.From<n/\0<=a.To/\a.To<n
def gOk (n:Int) (aA:List kX):Prop:=0<=n/\n<=262144/\∀ k,k<aA.length->arcOk n (kW aA k)
theorem YR (n:Int) (aA:List kX):∀ k,(zK n aA k).length=n.toNat
 |0=>List.length_replicate ..
 |k+1=>(List.length_set ..).trans (YR n aA k)
theorem YO (o:Rows):∀ k,(YP o k).length=o.length
 |0=>rfl
 |k+1=>((List.length_set ..).trans (List.length_set ..)).trans (YO o k)
theorem oG {o:Rows} {v w:Nat} {l:List Int}:aQ (o.set v l) w=if v=w/\v<o.length then l else aQ o w:=by
 unfold aQ;rw [fI,fI,List.getElem?_set]
 by_cases e:v=w
 ·subst e
  by_cases h:v<o.length
  ·rw [if_pos rfl,if_pos h,if_pos ⟨rfl,h⟩];rfl
  ·rw [if_pos rfl,if_neg h,if_neg (fun q=>h q.2),List.getElem?_eq_none au]
 ·rw [if_neg e,if_neg (fun q=>e q.1)]
theorem L8 (n:Int) (aA:List kX):∀ k w,(aQ (zK n aA k) w).length<=k
 |0,w=>by
   unfold aQ zK;rw [fI,List.getElem?_replicate];split<;>exact Nat.le_refl _
 |k+1,w=>by
   rw [zK,oG];split
   ·rw [List.length_append];exact Nat.succ_le_succ (L8 n aA k _)
   ·exact Nat.le_succ_of_le (L8 n aA k w)
theorem nxI_eq {o:Rows} {v:Nat} (h:v<o.length):nxI o v=o.set v (icp (isr (aQ o v))):=by
 unfold nxI;rw [List.set_set,oG,if_pos ⟨rfl,h⟩]
noncomputable def F_AZ:Fact E0:=bM 352 Proofs.Tryz.f352 rfl rfl rfl [.i,.l 78] (fun n aA=>.ob (gOk n aA) (.aW none 34 (iP n aA))) [] [] (by
   intro n aA;refine fD rfl rfl fun hb hk=>?_
   have hl0:=YR n aA;simp only [know]at hk;have hb1:=hb.1;have hb2:=hb.2.1;have hq:aA.length*16<=140737488355328:=hk.2.1.1
   repeat' first|(refine w_ ?_;first|(apply aP;focus (refine⟨hb1,rfl,?_⟩<;>show n*24<=_<;>omega))|refine bO bK trivial ?_|(refine Or.inr (Or.inl ⟨[1,1,0,1,1,0,1,0,1,0,2,3,1,3],(.take 0 (.take 1 (.take 3 (.take 4 (.take 8 (.take 5 (.take 6 (.take 7 (.take 9 (.two 2 (.one 10 (.one 11 (.take 12 (.one 13 .done)))) 10 (.two 2 (.one 11 (.take 12 (.one 13 .done))) 11 (.take 2 (.take 12 (.one 13 .done)))))))))))))),by decide +kernel,?_⟩))|(refine And.intro ?_ ?_))|apply B_<;>intro h hc|apply I_;intro h
   all_goals conv=>whnf
   refine Or.inr (Or.inr ⟨[(5,1,0)],[13],[],[0],[5,11,12],[],?_⟩);conv=>whnf
   refine⟨fun(s:Int×Unit) (t:Li 34×Unit)=>0<=s.1/\s.1<=aA.length/\t.1=zK n aA s.1.toNat,fun(s:Int×Unit) _=>(aA.length-s.1).toNat,?_⟩
   conv=>whnf
   refine eZ.mk ⟨bg,bg,rfl⟩ bA ?_
   rintro⟨(k:Int),_⟩ ⟨(t:Li 34),_⟩ ⟨h0,h1,hS⟩
   try dsimp only at h0 h1 hS
   obtain⟨k,rfl⟩:=cO h0;rw [bP]at hS;subst hS;have hrow:∀ v,@ln (ah 0) (gt 34 (zK n aA k) v)<=k:=L8 n aA k;have hlen:@ln (ah 34) (zK n aA k)=n.toNat:=hl0 k
   have hA:k<aA.length->0<=(gt 78 aA ((k:Int)).toNat).From/\(gt 78 aA ((k:Int)).toNat).From<((@ln (ah 34) (zK n aA k):Nat):Int):=fun hk=>by
     obtain⟨a1,a2,_,_⟩:=hb.2.2 k hk;refine⟨a1,?_⟩;rw [hlen];show(kW aA k).From<_;omega
   have hB:k<aA.length->(@ln (ah 0) (gt 34 (zK n aA k) (gt 78 aA ((k:Int)).toNat).From.toNat)+1)*8<=140737488355328:=fun hk=>by
     have hr:=hrow (gt 78 aA ((k:Int)).toNat).From.toNat;omega
   clear hrow
   repeat' first|(refine w_ ?_;first|(apply aP;focus (first|exact hA au|exact hB au))|refine bO (h_ [(14,7,3)]) trivial ?_|(refine Or.inr (Or.inl ⟨[1,1,0,1,1,0,1,3,1,0,2,3,1,3],(.take 0 (.take 1 (.take 3 (.take 4 (.take 8 (.take 5 (.take 6 (.three 2 (.two 7 (.take 9 (.one 10 (.one 11 (.take 12 (.one 13 .done))))) 9 (.two 7 (.one 10 (.one 11 (.take 12 (.one 13 .done)))) 10 (.one 7 (.one 11 (.take 12 (.one 13 .done)))))) 7 (.take 9 (.two 2 (.one 10 (.one 11 (.take 12 (.one 13 .done)))) 10 (.two 2 (.one 11 (.take 12 (.one 13 .done))) 11 (.take 2 (.take 12 (.one 13 .done)))))) 9 (.three 2 (.two 7 (.one 10 (.one 11 (.take 12 (.one 13 .done)))) 10 (.one 7 (.one 11 (.take 12 (.one 13 .done))))) 7 (.two 2 (.one 10 (.one 11 (.take 12 (.one 13 .done)))) 10 (.two 2 (.one 11 (.take 12 (.one 13 .done))) 11 (.take 2 (.take 12 (.one 13 .done))))) 10 (.two 2 (.one 7 (.one 11 (.take 12 (.one 13 .done)))) 7 (.two 2 (.one 11 (.take 12 (.one 13 .done))) 11 (.take 2 (.take 12 (.one 13 .done)))))))))))))),by decide +kernel,?_⟩))|(refine And.intro ?_ ?_))|apply B_<;>intro h hc|apply I_;intro h
   all_goals conv=>whnf
   all_goals first
    |(show(0:Int)<=(k:Int)+1;omega)
    |(show(k:Int)+1<=aA.length;omega)
    |(show _=zK n aA (k+1);rfl)
    |skip
   have ek:k=aA.length:=by omega
   subst ek;have hl1:=YO (zK n aA aA.length);have hlq:∀ v,@ln (ah 34) (YP (zK n aA aA.length) v)=n.toNat:=fun v=>(hl1 v).trans (hl0 aA.length)
   refine Or.inr (Or.inr ⟨[(5,1,0)],[33],[],[0],[5,32],[],?_⟩);conv=>whnf
   refine⟨fun(s:Int×Unit) (t:Li 34×Unit)=>0<=s.1/\s.1<=(@ln (ah 34) (zK n aA aA.length):Nat)/\t.1=YP (zK n aA aA.length) s.1.toNat,fun(s:Int×Unit) _=>((@ln (ah 34) (zK n aA aA.length):Nat)-s.1).toNat,?_⟩
   conv=>whnf
   refine eZ.mk ⟨bg,bg,rfl⟩ bA ?_
   rintro⟨(j:Int),_⟩ ⟨(t:Li 34),_⟩ ⟨g0,g1,gS⟩
   try dsimp only at g0 g1 gS
   obtain⟨j,rfl⟩:=cO g0;rw [bP]at gS;subst gS;have hlj:=hlq j;have hls:∀ x:Li 0,@ln (ah 34) (List.set (α:=ah 34) (YP (zK n aA aA.length) j) j x)=n.toNat:=fun x=>(@List.length_set (ah 34) (YP (zK n aA aA.length) j) j x).trans hlj
   repeat' first|(refine w_ ?_;first|(apply aP;focus (first|(refine⟨g0,?_⟩<;>rw [hlj]<;>omega)|(refine⟨g0,?_⟩<;>(show(j:Int)<((@ln (ah 34) (List.set (α:=ah 34) (YP (zK n aA aA.length) j) j _):Nat):Int))<;>rw [hls]<;>omega)))|refine bO bK trivial ?_|(refine Or.inl ⟨_,_,_,_,[1],Bb _ _,rfl,rfl,rfl,rfl,rfl,(aK trivial),?_⟩;(rintro _ _ _ ⟨rfl,rfl,rfl⟩;refine aK (aK ?_)))|(refine Or.inl ⟨_,_,_,_,[2],Hu _ _,rfl,rfl,rfl,rfl,rfl,(aK trivial),?_⟩;(rintro _ _ _ ⟨rfl,rfl,rfl⟩;refine aK (aK ?_)))|(refine Or.inr (Or.inl ⟨[1,1,0,1,1,0,1,0,1,0,2,3,1,3],(.take 0 (.take 1 (.take 3 (.take 4 (.take 8 (.take 5 (.take 6 (.take 7 (.take 9 (.two 2 (.one 10 (.one 11 (.take 12 (.one 13 .done)))) 10 (.two 2 (.one 11 (.take 12 (.one 13 .done))) 11 (.take 2 (.take 12 (.one 13 .done)))))))))))))),by decide +kernel,?_⟩))|(refine And.intro ?_ ?_))|apply B_<;>intro h hc|apply I_;intro h
   all_goals conv=>whnf
   all_goals first
    |(show(0:Int)<=(j:Int)+1;omega)
    |(show(j:Int)+1<=_;omega)
    |(show _=YP (zK n aA aA.length) (j+1);rfl)
    |skip
   ·have ej:j=n.toNat:=by have:=hl0 aA.length;omega
    subst ej;rfl
)
abbrev vb (l:Li 3) (k:Nat):UInt8:=gt 3 l k
def vnB (s:ByteArray) (k:Nat) (_:Unit) (next:Unit->Bool):Bool:=bif decide (vb s.data.toList k<UInt8.ofNat 33)||decide (UInt8.ofNat 126<vb s.data.toList k)then false else next ()
def vnF (s:ByteArray) (_:Unit):Bool:=decide ((1:Int)<=s.size)&&decide ((s.size:Int)<=64)
def lW (s:ByteArray):Bool:=lp (vnB s) (vnF s) (@ln (ah 3) s.data.toList) 0 ()
noncomputable def F_Eh:Fact E0:=bM 192 Proofs.Tryz.f192 rfl rfl rfl [.s] (fun w=>.ob ((w.size:Int)<=140737488355328) (.b (lW w))) [] [] (by
   intro w;refine fD rfl rfl fun hb hk=>?_
   simp only [know]at hk
   repeat' first|refine dM ?_|apply B_<;>intro h hc|apply I_;intro h
   all_goals conv=>whnf
   refine Or.inr (Or.inr ⟨[],[8,15,16],[],[],[0,6,7,23,24,25],[],?_⟩);conv=>whnf
   refine⟨fun(s:Int×Unit) (t:Unit)=>0<=s.1/\s.1<=@ln (ah 3) w.data.toList/\lW w=lp (vnB w) (vnF w) (@ln (ah 3) w.data.toList-s.1.toNat) s.1.toNat (()),fun(s:Int×Unit) (_:Unit)=>(@ln (ah 3) w.data.toList-s.1).toNat,?_⟩
   conv=>whnf
   refine eZ.mk ⟨bg,bg,rfl⟩ bA ?_
   rintro⟨(k:Int),_⟩ _ ⟨h0,h1,hS⟩
   try dsimp only at h0 h1 hS
   obtain⟨k,rfl⟩:=cO (show(0:Int)<=k by omega)
   rw [bP]at hS
   repeat' first|refine dM ?_|apply B_<;>intro h hc|apply I_;intro h
   all_goals conv=>whnf
   all_goals exact l5)
def wpB (a n:Int) (k:Nat) (l:Li 3) (next:Li 3->Li 3):Li 3:=next (List.set (α:=ah 3) l (a+k).toNat (UInt8.ofNat (iI (UInt64.ofInt n) (8*(k:Int))).toNat))
def wpF (_ _:Int) (l:Li 3):Li 3:=l
def Fa (s:ByteArray) (a z n:Int):Li 3:=lp (wpB a n) (wpF a n) z.toNat 0 s.data.toList
def lD (s:ByteArray) (a z n:Int):Bool:=l7 s a z&&(lV n (8*z) false||lV n (8*z) true)
def oF (s:ByteArray) (a z n:Int):ByteArray:=bif lD s a z n then ofBytes (Fa s a z n)else⟨#[]⟩
noncomputable def I_GI:je E0:=kC 182 Proofs.Tryz.f182 rfl rfl
noncomputable def F_Ep:Fact E0:=bM 73 Proofs.Tryz.f73 rfl rfl rfl uM (fun s a z n=>.ob ((s.size:Int)<=140737488355328) (.jm [.str (oF s a z n),.b (lD s a z n)])) [F_Eq,F_Em] [I_GI] (by
   intro s a z n;refine fD rfl rfl fun hb hk=>?_
   simp only [know]at hk
   cases hF:l7 s a z with
   |false =>
     have e1:lD s a z n=false:=by unfold lD;rw [hF];rfl
     have e2:oF s a z n=⟨#[]⟩:=by unfold oF;rw [e1];rfl
     rw [e1,e2];have hd:(!l7 s a z || !lV n (8*z) false&&!lV n (8*z) true)=true:=by rw [hF];rfl
     have hw:l7 s a z=true->IntKind.i64.wrap (8*z)=8*z:=fun h=>by rw [hF]at h;cases h
     repeat' first|(refine w_ ?_;refine Exists.intro _ (And.intro (fun hq=>hw (by simpa using hq)) ?_))|(refine w_ ?_;refine Exists.intro _ (And.intro (fun hq=>hw (by simpa using hq.1)) ?_))|refine dM ?_|apply B_<;>intro h hc|apply I_;intro h
     all_goals conv=>whnf
     all_goals exact bA
   |true =>
     obtain⟨hz,ha0,ha1⟩:=Fe.1 hF;have hz1:1<=z/\z<=8:=by omega
     cases hG:(!lV n (8*z) false&&!lV n (8*z) true)with
     |true =>
       have e1:lD s a z n=false:=by
         unfold lD;rw [Bool.and_eq_true]at hG;have h1:lV n (8*z) false=false:=by simpa using hG.1
         have h2:lV n (8*z) true=false:=by simpa using hG.2
         rw [hF,h1,h2];rfl
       have e2:oF s a z n=⟨#[]⟩:=by unfold oF;rw [e1];rfl
       rw [e1,e2];have hd:(!l7 s a z || !lV n (8*z) false&&!lV n (8*z) true)=true:=by rw [hG];exact Bool.or_true _
       repeat' first|(refine w_ ?_;refine Or.inr (show vU _ _ _ _ _ _ from ?_))|refine dM ?_|apply B_<;>intro h hc|apply I_;intro h
       all_goals conv=>whnf
       all_goals exact bA
     |false =>
       have hd:(!l7 s a z || !lV n (8*z) false&&!lV n (8*z) true)=false:=by rw [hG,hF];rfl
       repeat' first|(refine w_ ?_;refine Or.inr (show vU _ _ _ _ _ _ from ?_))|refine dM ?_|apply B_<;>intro h hc|apply I_;intro h
       all_goals conv=>whnf
       obtain⟨z,rfl⟩:=cO (show 0<=z by omega)
       have e1:lD s a z n=true:=by
         unfold lD;rw [hF,Bool.true_and]
         cases h1:lV n (8*(z:Int)) false with
         |true=>rfl
         |false =>
           cases h2:lV n (8*(z:Int)) true with
           |true=>rfl
           |false=>rw [h1,h2]at hG;cases hG
       have e2:oF s a z n=ofBytes (Fa s a z n):=by unfold oF;rw [e1];rfl
       have e3:Fa s a z n=lp (wpB a n) (wpF a n) z 0 s.data.toList:=by unfold Fa;rw [bP]
       have hsl:@ln (ah 3) s.data.toList=s.size:=Array.length_toList;rw [e1,e2];generalize Fa s a z n=Z at e3;refine Or.inr (Or.inr ⟨[],[36],[],[2],[10,11,35],[],?_⟩);conv=>whnf
       refine⟨fun(x:Int×Unit) (t:Li 3×Unit)=>∃ k:Nat,x.1=k/\k<=z/\@ln (ah 3) t.1=s.size/\Z=lp (wpB a n) (wpF a n) (z-k) k t.1,fun(x:Int×Unit) _=>((z:Int)-x.1).toNat,?_⟩
       conv=>whnf
       refine eZ.mk ⟨0,rfl,Nat.zero_le _,hsl,e3⟩ bA ?_;rintro⟨(k:Int),_⟩ ⟨(t:Li 3),_⟩ ⟨k,hk1,hk2,hl,hS⟩;replace hk1:_=(k:Int):=hk1;subst hk1;replace hl:@ln (ah 3) t=s.size:=hl;replace hS:Z=lp (wpB a n) (wpF a n) (z-k) k t:=hS;refine gK fun K hK=>?_
       by_cases hkl:k<z
       ·have hd2:decide ((k:Int)<(z:Int))=true:=decide_eq_true au
        have oi:0<=a+(k:Int)/\a+(k:Int)<(@ln (ah 3) t:Nat):=by omega
        repeat' first|(refine jU ?_;first|(apply aP;focus (exact oi))|refine bO bK trivial ?_)|apply B_<;>intro h hc|apply I_;intro h
        all_goals refine iw ?_
        ·refine⟨k+1,rfl,hkl,?_,hS.trans (cK hkl)⟩;exact(@List.length_set (ah 3) t _ _).trans hl
       have hd2:decide ((k:Int)<(z:Int))=false:=decide_eq_false au
       have hZ:Z=t:=hS.trans (iZ au)
       subst hZ
       repeat' first|refine iF ?_|apply B_<;>intro h hc|apply I_;intro h
       all_goals refine iw ?_
       refine w_ ?_;repeat' (first|((with_reducible apply And.intro)<;>(first|(with_reducible refine iK ?_;apply rfl)|(with_reducible refine eY ?_;apply rfl)|(refine w_ ?_)))|(with_reducible apply trivial)|apply rfl|apply(Or.inl rfl)|apply(Or.inr rfl)|apply(Or.inr (Or.inl rfl))|apply trivial|(apply And.intro<;>(refine w_ ?_))))
abbrev X4 (k:Int):oh:=gt 54 oJ k.toNat
def X8 (k:Int):Bool:=Cu k&&!(X4 k).ops.isEmpty
theorem X7 {k:Int} (h:Cu k=true):0<=k/\k<((13:Nat):Int):=by simpa [Cu] using h
noncomputable def F_DA:Fact E0:=bM 157 Proofs.Tryz.f157 rfl rfl rfl [.i] (fun k=>.ok (.b (X8 k))) [F_DH] [] (by
   repeat intro _
   refine dP rfl rfl fun hk=>?_
   repeat' first|(refine w_ ?_;first|(apply aP;focus (first|exact fun h=>X7 h|exact X7 (by assumption)))|refine bO bK trivial ?_)|apply B_<;>intro h hc|apply I_;intro h
   all_goals conv=>whnf
   all_goals first|exact rfl)
end Go.SX
namespace Go.Proofs
open Go.Shelf
def YtpndeclljmdjkaaGreatDoor.DU:Go.Shelf.Ren:=⟨fun|169=>224|n=>n,fun|70=>305|9=>9|0=>0|72=>307|37=>78|127=>404|3=>3|5=>5|n=>n,fun|n=>n⟩
theorem YtpndeclljmdjkaaGreatDoor.lays169:Go.Proofs.Lays.n169 Tryz.prog YtpndeclljmdjkaaGreatDoor.DU:={
 mixed:=by kernel_rfl
 f169:=Tryz.func224.trans (congrArg some (by kernel_rfl))
 t0:=Tryz.underlying0
 a0:=Tryz.isAgg0
 z0:=Tryz.sizeOf0
 v0:=Tryz.zeroValue0
 t3:=Tryz.underlying3
 a3:=Tryz.isAgg3
 z3:=Tryz.sizeOf3
 v3:=Tryz.zeroValue3
 t9:=Tryz.underlying9
 a9:=Tryz.isAgg9
 z9:=Tryz.sizeOf9
 v9:=Tryz.zeroValue9
 t37:=Tryz.underlying78
 a37:=Tryz.isAgg78
 z37:=Tryz.sizeOf78
 v37:=Tryz.zeroValue78
 t70:=Tryz.underlying305
 a70:=Tryz.isAgg305
 z70:=Tryz.sizeOf305
 v70:=Tryz.zeroValue305
 t72:=Tryz.underlying307
 a72:=Tryz.isAgg307
 z72:=Tryz.sizeOf307
 v72:=Tryz.zeroValue307
 t127:=Tryz.underlying404
 a127:=Tryz.isAgg404
 z127:=Tryz.sizeOf404
 v127:=Tryz.zeroValue404 }
end Go.Proofs
namespace Go.Lib
theorem aao {P:Program} {e:TypeId} (hc:P.cellsOf e=1) (count o n:Nat) (hn:o+n<=count):liesAt P P.depth e count o e n=true:=by
 have hd:P.depth=(2*(P.types.size+Made.depth)+1)+1:=rfl;rw [hd];simp only [liesAt,Bool.or_eq_true];left;rw [hd];simp [rowAt,hc,hn,sameLayout,Nat.mod_one]
theorem M8 {P:Program} {w:World} (pt it ty e:TypeId) (hp:P.underlying pt=some (.pointer e)) (hc:P.cellsOf e=1) (g o cells:Nat) (hsh:w.shape? g=some (e,cells)) (l:List UInt8) (h0:l≠[]) (hn:o+l.length<=cells) (h63:l.length<=9223372036854775807)
   (hcell:∀ j x,l[j]?=some x->w.cell? ((⟨g,o,none⟩:Addr).add j)=some (.int .u8 x.toNat)) :
   (Builtin.unsafeString_ #[pt,it] ty #[.pointer (some ⟨g,o,none⟩),.int .i64 l.length]).run P w=.ok (.string ⟨l.toArray⟩) (w.freeze ⟨g,o,none⟩ l.length):=by
 have hl:l.length≠0:=by simpa using h0
 have hlb:=run_loadBytes (P:=P) w l ⟨g,o,none⟩ .empty hcell;have hlies:=aao (P:=P) hc (cells / P.cellsOf e) o l.length (by rw [hc];simpa using hn)
 have h63':¬ (9223372036854775807:Int)<(l.length:Int):=by omega
 have hdef:Builtin.unsafeString_ #[pt,it] ty #[.pointer (some ⟨g,o,none⟩),.int .i64 l.length] =
     (do
       let n <- asInt (.int .i64 l.length)
       if n<0 then runtimePanic (.error "unsafe.String: len out of range")
       if n > IntKind.i64.max then unsupported (.unsafePointer "String: a length above the largest int")
       if n=0 then pure (.string .empty)
       else if <- variablesAt ⟨g,o,none⟩ (<- elemOf pt) n.toNat then do
         let s <- loadBytes ⟨g,o,none⟩ .empty n.toNat
         freeze ⟨g,o,none⟩ n.toNat
         pure (.string s)
       else unsupported (.unsafePointer "String: not so many bytes at ptr")):=rfl
 rw [hdef];have hmax:IntKind.i64.max=9223372036854775807:=rfl;have hneg:¬ (l.length:Int)<0:=by omega
 simp [asInt,asIntOf,hmax,h63',hneg,hl,variablesAt,hsh,elemOf,run_underlying hp,hlies,hlb]
end Go.Lib
namespace Go.Proofs
open Go.Shelf Go.RowKit
theorem bld_str {P:Program} {ρ:Ren} (L:Lays.n169 P ρ) (X:Builder.Extra P ρ) (b g o cap sz:Nat) (l:List UInt8) (w:World) (h0:l≠[]) (hcap:cap≠0) (hw:w.cell? ⟨b,1,none⟩=some (.slice (some ⟨g,o,none⟩) l.length cap)) (hsh:w.shape? g=some (ρ.t 5,sz)) (hn:o+l.length<=sz) (h63:l.length<=9223372036854775807)
   (hcell:∀ j x,l[j]?=some x->w.cell? ((⟨g,o,none⟩:Addr).add j)=some (.int .u8 x.toNat)) :
   Calls P (ρ.f 169) #[.pointer (some ⟨b,0,none⟩)] w fun e w'=>e=.returned (.string ⟨l.toArray⟩)/\w'=w.drew.freeze ⟨g,o,none⟩ l.length:=by
 have c1:w.drew.cell? ⟨b,1,none⟩=some (.slice (some ⟨g,o,none⟩) l.length cap):=hw
 have hSD:(Builtin.unsafeSliceData_ #[(ρ.t 37)] (ρ.t 127) #[.slice (some ⟨g,o,none⟩) l.length cap]).run P w.drew=.ok (.pointer (some ⟨g,o,none⟩)) w.drew :=
   Lib.run_unsafeSliceData_row _ _ _ _ _ _ hcap
 have hUS:(Builtin.unsafeString_ #[(ρ.t 127),(ρ.t 3)] (ρ.t 9) #[.pointer (some ⟨g,o,none⟩),.int .i64 l.length]).run P w.drew=.ok (.string ⟨l.toArray⟩) (w.drew.freeze ⟨g,o,none⟩ l.length) :=
   Lib.M8 (w:=w.drew) (ρ.t 127) (ρ.t 3) (ρ.t 9) (ρ.t 5) L.t127 X.cellsByte g o sz hsh l h0 hn h63 hcell
 have mixed:=L.mixed;have t72:=L.t72;have a72:=L.a72;have z72:=L.z72;have v72:=L.v72;have u72:=run_underlying L.t72;have t70:=L.t70;have a70:=L.a70;have z70:=L.z70;have v70:=L.v70;have u70:=run_underlying L.t70;have t37:=L.t37;have a37:=L.a37;have z37:=L.z37;have v37:=L.v37;have u37:=run_underlying L.t37;have t127:=L.t127;have a127:=L.a127;have z127:=L.z127;have v127:=L.v127;have u127:=run_underlying L.t127;have t3:=L.t3;have a3:=L.a3;have z3:=L.z3;have v3:=L.v3;have u3:=run_underlying L.t3;have t9:=L.t9;have a9:=L.a9;have z9:=L.z9;have v9:=L.v9;have u9:=run_underlying L.t9;have t5:=X.t5;have a5:=X.a5;have z5:=X.z5;have v5:=X.v5;have u5:=run_underlying X.t5
 go_enter L.f169,Body.n169_ntmps ρ
 go_wp2
 go_region_o
 all_goals (go_wp2;go_ret;exact⟨rfl,rfl⟩)
end Go.Proofs
namespace Go.Proofs.YtpndeclljmdjkaaGreatDoor
open List renaming getD_eq_getElem?_getD -> fI
open Int renaming eq_ofNat_of_zero_le -> cO,toNat_natCast -> bP
open List renaming length -> ln
open Go.Shelf
theorem Um:Builder.Extra Go.Proofs.Tryz.prog DU where
 sizeBuilder:=by kernel_rfl
 liesBuilder:=by kernel_rfl
 t5:=Tryz.underlying5
 a5:=Tryz.isAgg5
 z5:=Tryz.sizeOf5
 v5:=Tryz.zeroValue5
 infoByte:=by kernel_rfl
 cellsByte:=by kernel_rfl
 sizeByte:=by kernel_rfl
 neB5:=by decide
open Go.RowKit
set_option maxRecDepth 100000 in
theorem bld_cc1 (b:Nat) (w:World) (h0:w.cell? ⟨b,0,none⟩=some (.pointer (some ⟨b,0,none⟩))) :
   Calls Go.Proofs.Tryz.prog 323 #[.pointer (some ⟨b,0,none⟩)] w fun e w'=>e=.returned (.tuple #[])/\w'=w:=by
 obtain⟨j,hj,_⟩:=Option.map_eq_some_iff.1 Um.sizeBuilder
 go_enter Tryz.func323,Tryz.ntmps323
 go_wp2
 rw [Lib.run_neq_ptr_same w _ Tryz.underlying305 hj]
 go_wp2
 go_end0
 exact⟨rfl,rfl⟩
set_option maxRecDepth 100000 in
theorem bld_cc0 (b:Nat) (w:World) (h0:w.cell? ⟨b,0,none⟩=some (.pointer none)) (hsh:w.shape? b=some (307,2)) (hfz:w.frozen? ⟨b,0,none⟩=false) :
   Calls Go.Proofs.Tryz.prog 323 #[.pointer (some ⟨b,0,none⟩)] w fun e w'=>e=.returned (.tuple #[])/\w'=w.setCell ⟨b,0,none⟩ (.pointer (some ⟨b,0,none⟩)):=by
 obtain⟨j,hj,hjs⟩:=Option.map_eq_some_iff.1 Um.sizeBuilder
 go_enter Tryz.func323,Tryz.ntmps323
 go_wp2
 rw [Lib.run_to_unsafe w ⟨b,0,none⟩ Tryz.underlying305 Tryz.underlying441 hj (by rw [hjs];decide) hsh (Nat.zero_lt_succ 1)]
 simp only [Result.andThen];rw [Oper.upon_value]
 go_wp2
 rw [run_callFunc_extern Tryz.func385 (by kernel_rfl) (by kernel_rfl) (by kernel_rfl) (e:=Extern.AbiNoEscape.same) (by kernel_rfl)]
 rw [Lib.run_noEscape];simp only [Result.andThen];rw [Oper.upon_value]
 go_wp2
 rw [Lib.run_from_unsafe w ⟨b,0,none⟩ Tryz.underlying441 Tryz.underlying305 hj hsh Um.liesBuilder];simp only [Result.andThen];rw [Oper.upon_value]
 go_wp2
 go_end0
 exact⟨rfl,rfl⟩
end Go.Proofs.YtpndeclljmdjkaaGreatDoor
namespace Go.SX
open List renaming getD_eq_getElem?_getD -> fI
open Int renaming eq_ofNat_of_zero_le -> cO,toNat_natCast -> bP
open List renaming length -> ln
open Go.XK Go.RowKit
abbrev Jr:TypeId:=307
abbrev np0:SV:=.v (.pointer none)
section
variable {m:Mm} {ids vs:List Value}
theorem Un {c:SV} {n:Nat} {H:List (Nat×HB)} (hH:pQ m ids ((0,.row Jr [c,.bT 1])::H)) (hv:aC m ids [.loc 0 0] vs) :
   ∃ b u v,ids[0]?=some (.pointer (some ⟨b,0,none⟩))/\vs=[.pointer (some ⟨b,0,none⟩)]/\Row m.w b Jr [u,v]/\Den m ids c u/\ids[1]?=some v:=by
 obtain⟨b,cs,h1,h2,h3⟩:=hH.sat 0 _ rfl;rw [aC]at h3;obtain⟨u,r,rfl,q1,q2⟩:=h3;rw [aC]at q2;obtain⟨v,r2,rfl,q3,q4⟩:=q2;rw [aC]at q4;subst q4;rw [Den]at q3;rw [aC]at hv;obtain⟨y,r,rfl,p1,p2⟩:=hv;rw [aC]at p2;subst p2;rw [Den]at p1;obtain⟨b2,p3,rfl⟩:=p1;rw [h1]at p3;cases p3;exact⟨b,u,v,h1,rfl,h2,q1,q3.1⟩
end
theorem U6 {w:World} {b:Nat} {T:TypeId} {vs:List Value} (h:Row w b T vs):w.shape? b=some (T,vs.length):=by
 unfold Row at h;simp [World.shape?,h]
theorem Qh {w:World} {b j:Nat} {T:TypeId} {vs:List Value} (h:Row w b T vs):w.frozen? ⟨b,j,none⟩=false:=by
 unfold Row at h;simp [World.frozen?,h]
theorem Z8 {z:Option Bool} {l:Li 3}:HC E0 323 2 [.loc 0 0] [(0,.row Jr [.loc 0 0,.bT 1]),(1,.arr 5 z 3 l)] (fun s H n=>s=.jm []/\H=[(0,.row Jr [.loc 0 0,.bT 1]),(1,.arr 5 z 3 l)]/\n=2):=by
 refine⟨by unfold dA;kernel_rfl,fun m ids vs hG hm hn hH hv=>?_⟩
 obtain⟨b,u,v,h1,rfl,h2,h3,h4⟩:=Un (n:=0) hH hv;rw [Den]at h3;obtain⟨b2,h5,rfl⟩:=h3;rw [h1]at h5;cases h5;refine(Go.Proofs.YtpndeclljmdjkaaGreatDoor.bld_cc1 b m.w (h2.cell (j:=0) rfl)).mono fun e w' ⟨he,hw⟩=>?_
 subst hw;exact⟨.tuple #[],m.S,ids,.jm [],_,he,⟨rfl,rfl,hn⟩,(Ext.refl _).mod _,⟨fun b hb=>⟨hb,rfl⟩,Nat.le_refl _⟩,fun b hb=>⟨hm b hb,.inl hb⟩,fun _ _=>rfl,au,hH,fun b hb=>.inl hb,by rw [Den];exact⟨[],rfl,by rw [aC]⟩⟩
theorem Z9:HC E0 323 1 [.loc 0 0] [(0,.row Jr [np0,.nl])] (fun s H n=>s=.jm []/\H=[(0,.row Jr [.loc 0 0,.nl])]/\n=1):=by
 refine⟨by unfold dA;kernel_rfl,fun m ids vs hG hm hn hH hv=>?_⟩
 obtain⟨b,cs,h1,h2,h3⟩:=hH.sat 0 _ rfl;rw [aC]at h3;obtain⟨u,r,rfl,q1,q2⟩:=h3;rw [aC]at q2;obtain⟨v,r2,rfl,q3,q4⟩:=q2;rw [aC]at q4;subst q4;rw [Den]at q1 q3;subst q1 q3;rw [aC]at hv;obtain⟨y,r,rfl,p1,p2⟩:=hv;rw [aC]at p2;subst p2;rw [Den]at p1;obtain⟨b2,p3,rfl⟩:=p1;rw [h1]at p3;cases p3;refine(Go.Proofs.YtpndeclljmdjkaaGreatDoor.bld_cc0 b m.w (h2.cell (j:=0) rfl) (U6 h2) (Qh h2)).mono fun e w' ⟨he,hw⟩=>?_
 have hlt:=h2.lt;have hsz:w'.heap.size=m.w.heap.size:=by rw [hw];simp [World.setCell]
 have hoth:∀ k,k≠b->w'.heap[k]?=m.w.heap[k]?:=fun k hk=>by
   rw [hw];exact Below.heap_setCell _ _ _ _ (fun e=>hk (by simpa using e))
 have hrow:Row w' b Jr [.pointer (some ⟨b,0,none⟩),.slice none 0 0]:=by
   unfold Row at h2 ⊢;rw [hw];simp [World.setCell,Array.getElem?_modify,h2]
 have hT:HT ids [(0,HB.row Jr [np0,.nl])] b:=⟨0,_,rfl,rfl,_,h1,rfl⟩;have ED:¬ m.S b:=hH.vG 0 _ b rfl ⟨rfl,_,h1,rfl⟩;have hle:m.le ⟨w',m.S⟩:=⟨fun k hk=>⟨hk,hoth k fun e=>ED (e▸hk)⟩,Nat.le_of_eq hsz.symm⟩
 refine⟨.tuple #[],m.S,ids,.jm [],_,he,⟨rfl,rfl,hn⟩,⟨by rw [hw];rfl,by rw [hw];rfl,by rw [hw];rfl,Nat.le_of_eq hsz.symm,fun k hk hne=>hoth k fun e=>hne (e▸hT)⟩,hle,fun k hk=>⟨Nat.lt_of_lt_of_le (hm k hk) (Nat.le_of_eq hsz.symm),.inl hk⟩,fun _ _=>rfl,au,
   Ba ⟨b,_,h1,hrow,?_⟩ fun k hf=>?_,fun k ⟨i,hb0,hi,hf⟩=>.inl ?_,by rw [Den];exact⟨[],rfl,by rw [aC]⟩⟩
 ·rw [aC];refine⟨_,_,rfl,by rw [Den];exact⟨b,h1,rfl⟩,?_⟩
  rw [aC];refine⟨_,_,rfl,by rw [Den],by rw [aC]⟩
 ·obtain⟨_,v,q1,q2⟩:=hf;rw [h1]at q1;cases q1;cases q2;exact ED
 ·rw [bG]at hi;split at hi
  ·rename_i e;cases hi;subst e;obtain⟨_,v,q1,q2⟩:=hf;exact⟨0,_,rfl,rfl,v,q1,q2⟩
  ·cases hi
theorem lG {z:Option Bool} {l:Li 3} (h0:0<@ln (ah 3) l):HC E0 224 2 [.loc 0 0] [(0,.row Jr [.loc 0 0,.bT 1]),(1,.arr 5 z 3 l)] (fun s H n=>s=.str (ofBytes l)/\H=[]/\n=2):=by
 refine⟨by unfold dA;kernel_rfl,fun m ids vs hG hm hn hH hv=>?_⟩
 obtain⟨b,u,v,h1,rfl,h2,h3,h4⟩:=Un (n:=0) hH hv;obtain⟨v',bC,q1,q2,q3,_,q5⟩:=hH.sat 1 _ rfl;rw [h4]at q1;cases q1;have hlen:@ln (ah 3) l<=140737488355328:=jC q5;have hrd:=q2.reads;rw [Ii q3]at hrd;obtain⟨g,o,cap,rfl,hcl,_,hat⟩:=hrd.has h0;rcases q2.2 with ⟨e,_⟩|⟨g2,o2,cap2,cur,e,_,hh,hnc,hcm,hcs,_⟩
 ·cases e
 cases e;obtain⟨fr,hh,_⟩:=hh.ex;have hK:KT 3=1:=rfl;rw [hK,Nat.mul_one]at hcs;have hl0:(l:List UInt8)≠[]:=fun e=>by rw [e]at h0;cases h0
 refine(Go.Proofs.bld_str Go.Proofs.YtpndeclljmdjkaaGreatDoor.lays169 Go.Proofs.YtpndeclljmdjkaaGreatDoor.Um b g o cap cur.size l m.w hl0 au (h2.cell (j:=1) rfl) (by simp [World.shape?,hh];rfl) (by show o+@ln (ah 3) l<=_;omega) (by show @ln (ah 3) l<=_;omega) (fun j x hj=>by
   rw [Addr.add_mid]
   exact hat j _ (by rw [@List.getElem?_map UInt8 Value _ l j];exact congrArg (Option.map fun b:UInt8=>Value.int .u8 b.toNat) hj))).mono fun e w' ⟨he,hw⟩=>?_
 have hsz:w'.heap.size=m.w.heap.size:=by
   rw [hw];unfold World.freeze;split
   ·rfl
   ·simp
 have hoth:∀ k,k≠g->w'.heap[k]?=m.w.heap[k]?:=fun k hk=>by
   rw [hw];unfold World.freeze;split
   ·rfl
   ·simp only [Array.getElem?_modify];rw [if_neg (fun e=>hk e.symm)]
    rfl
 have hos:w'.os=m.w.os/\w'.tape=m.w.tape/\w'.output=m.w.output:=by
   rw [hw];unfold World.freeze;split<;>exact⟨rfl,rfl,rfl⟩
 have hT:HT ids [(0,HB.row Jr [.loc 0 0,.bT 1]),(1,.arr 5 z 3 l)] g:=⟨1,_,rfl,rfl,_,h4,rfl⟩;have ED:¬ m.S g:=hH.vG 1 _ g rfl ⟨rfl,_,h4,rfl⟩
 refine⟨_,m.S,ids,.str (ofBytes l),[],he,⟨rfl,rfl,hn⟩,⟨hos.1,hos.2.1,hos.2.2,Nat.le_of_eq hsz.symm,fun k hk hne=>hoth k fun e=>hne (e▸hT)⟩,⟨fun k hk=>⟨hk,hoth k fun e=>ED (e▸hk)⟩,Nat.le_of_eq hsz.symm⟩,fun k hk=>⟨Nat.lt_of_lt_of_le (hm k hk) (Nat.le_of_eq hsz.symm),.inl hk⟩,fun _ _=>rfl,au,
   ⟨fun i hb h=>(by cases h),fun i hb j hb' h=>(by cases h),fun i hb b h=>(by cases h)⟩,fun k ⟨i,hb0,hi,_⟩=>(by cases hi),?_⟩
 rw [Den];refine⟨rfl,?_⟩;show((ofBytes l).size:Int)<=oo;have:(ofBytes l).size=@ln (ah 3) l:=by unfold ofBytes;exact List.size_toArray ..
 rw [this];unfold oo;omega
set_option maxHeartbeats 40000000
theorem nk {s:ByteArray} (hb:@ln (ah 3) s.data.toList<=70368744177664):HC E0 222 1 [.loc 0 0,.str s] [(0,.row Jr [np0,.nl])] (fun v H n=>v=.jm [.i s.size,.v .nilIface]/\H=[(0,.row Jr [.loc 0 0,.bT 1]),(1,.arr 5 none 3 s.data.toList)]/\n=2):=by
 refine dG (DB:=[]) (IL:=[]) (WL:=[]) (fn:=Proofs.Tryz.f222) rfl rfl rfl rfl (by unfold dA;kernel_rfl) (fun hk=>?_)
 simp only [know]at hk;have hb2:@ln (ah 3) s.data.toList*1<=140737488355328:=by omega
 repeat' first|(refine w_ ?_;first|refine bO bK @hb2 ?_|(refine Or.inl ⟨_,_,_,_,[0],Z9 , rfl,rfl,rfl,rfl,rfl,(aK trivial),?_⟩;(rintro _ _ _ ⟨rfl,rfl,rfl⟩;refine aK (aK ?_))))|apply B_<;>intro h hc|apply I_;intro h
 all_goals conv=>whnf
 refine⟨[],[],_,_,[1],⟨rfl,rfl,rfl⟩,?_⟩
 conv=>whnf
 refine w_ ?_;repeat' (first|((with_reducible apply And.intro)<;>(first|(with_reducible refine iK ?_;apply rfl)|(with_reducible refine eY ?_;apply rfl)|(refine w_ ?_)))|(with_reducible apply trivial)|apply rfl|apply(Or.inl rfl)|apply(Or.inr rfl)|apply(Or.inr (Or.inl rfl))|apply trivial|(apply And.intro<;>(refine w_ ?_)))
theorem jS {z:Option Bool} {l:Li 3} {s:ByteArray} (hb:@ln (ah 3) l+@ln (ah 3) s.data.toList<=70368744177664):HC E0 222 2 [.loc 0 0,.str s] [(0,.row Jr [.loc 0 0,.bT 1]),(1,.arr 5 z 3 l)] (fun v H n=>v=.jm [.i s.size,.v .nilIface]/\H=[(0,.row Jr [.loc 0 0,.bT 2]),(2,.arr 5 none 3 (@HAppend.hAppend (Li 3) (Li 3) (Li 3) _ l s.data.toList))]/\n=3):=by
 refine dG (DB:=[]) (IL:=[]) (WL:=[]) (fn:=Proofs.Tryz.f222) rfl rfl rfl rfl (by unfold dA;kernel_rfl) (fun hk=>?_)
 simp only [know]at hk;have hb2:(@ln (ah 3) l+@ln (ah 3) s.data.toList)*1<=140737488355328:=by omega
 repeat' first|(refine w_ ?_;first|refine bO bK @hb2 ?_|(refine Or.inl ⟨_,_,_,_,[0,1],Z8 , rfl,rfl,rfl,rfl,rfl,(aK (aK trivial)),?_⟩;(rintro _ _ _ ⟨rfl,rfl,rfl⟩;refine aK (aK ?_))))|apply B_<;>intro h hc|apply I_;intro h
 all_goals conv=>whnf
 refine⟨[],[],_,_,[2],⟨rfl,rfl,rfl⟩,?_⟩
 conv=>whnf
 refine w_ ?_;repeat' (first|((with_reducible apply And.intro)<;>(first|(with_reducible refine iK ?_;apply rfl)|(with_reducible refine eY ?_;apply rfl)|(refine w_ ?_)))|(with_reducible apply trivial)|apply rfl|apply(Or.inl rfl)|apply(Or.inr rfl)|apply(Or.inr (Or.inl rfl))|apply trivial|(apply And.intro<;>(refine w_ ?_)))
theorem hc_wb0 {c:UInt8}:HC E0 238 1 [.loc 0 0,.w8 c] [(0,.row Jr [np0,.nl])] (fun v H n=>v=.v .nilIface/\H=[(0,.row Jr [.loc 0 0,.bT 1]),(1,.arr 5 none 3 [c])]/\n=2):=by
 refine dG (DB:=[]) (IL:=[]) (WL:=[]) (fn:=Proofs.Tryz.f238) rfl rfl rfl rfl (by unfold dA;kernel_rfl) (fun hk=>?_)
 simp only [know]at hk
 repeat' first|(refine w_ ?_;first|refine bO bK trivial ?_|(refine Or.inl ⟨_,_,_,_,[0],Z9 , rfl,rfl,rfl,rfl,rfl,(aK trivial),?_⟩;(rintro _ _ _ ⟨rfl,rfl,rfl⟩;refine aK (aK ?_))))|apply B_<;>intro h hc|apply I_;intro h
 all_goals conv=>whnf
 refine⟨[],[],_,_,[2],⟨rfl,rfl,rfl⟩,?_⟩
 conv=>whnf
 refine w_ ?_;repeat' (first|((with_reducible apply And.intro)<;>(first|(with_reducible refine iK ?_;apply rfl)|(with_reducible refine eY ?_;apply rfl)|(refine w_ ?_)))|(with_reducible apply trivial)|apply rfl|apply(Or.inl rfl)|apply(Or.inr rfl)|apply(Or.inr (Or.inl rfl))|apply trivial|(apply And.intro<;>(refine w_ ?_)))
theorem Z0 {z:Option Bool} {l:Li 3} {c:UInt8} (hb:@ln (ah 3) l<=70368744177664):HC E0 238 2 [.loc 0 0,.w8 c] [(0,.row Jr [.loc 0 0,.bT 1]),(1,.arr 5 z 3 l)] (fun v H n=>v=.v .nilIface/\H=[(0,.row Jr [.loc 0 0,.bT 2]),(2,.arr 5 none 3 (@HAppend.hAppend (Li 3) (Li 3) (Li 3) _ l [c]))]/\n=3):=by
 refine dG (DB:=[]) (IL:=[]) (WL:=[]) (fn:=Proofs.Tryz.f238) rfl rfl rfl rfl (by unfold dA;kernel_rfl) (fun hk=>?_)
 simp only [know]at hk;have hb2:(@ln (ah 3) l+1)*1<=140737488355328:=by omega
 repeat' first|(refine w_ ?_;first|refine bO bK @hb2 ?_|(refine Or.inl ⟨_,_,_,_,[0,1],Z8 , rfl,rfl,rfl,rfl,rfl,(aK (aK trivial)),?_⟩;(rintro _ _ _ ⟨rfl,rfl,rfl⟩;refine aK (aK ?_))))|apply B_<;>intro h hc|apply I_;intro h
 all_goals conv=>whnf
 refine⟨[],[],_,_,[3],⟨rfl,rfl,rfl⟩,?_⟩
 conv=>whnf
 refine w_ ?_;repeat' (first|((with_reducible apply And.intro)<;>(first|(with_reducible refine iK ?_;apply rfl)|(with_reducible refine eY ?_;apply rfl)|(refine w_ ?_)))|(with_reducible apply trivial)|apply rfl|apply(Or.inl rfl)|apply(Or.inr rfl)|apply(Or.inr (Or.inl rfl))|apply trivial|(apply And.intro<;>(refine w_ ?_)))
end Go.SX
