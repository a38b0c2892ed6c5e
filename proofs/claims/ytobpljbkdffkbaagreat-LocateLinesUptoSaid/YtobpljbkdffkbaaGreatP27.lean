/- A part of the proof (texts SrtF, B74). -/
import Derived.Ground.SlgcProg
import Derived.Ground.SlsfProg
import Derived.Shelf.SlSortCmp.NoneTotal
import Derived.Shelf.SlSortCmp.WholeK
import Derived.Shelf.SlicesG.Cmp
import Derived.Test.YtobpljbkdffkbaaGreatP14
import Derived.Test.YtobpljbkdffkbaaGreatP16
set_option linter.all false
set_option maxRecDepth 100000
namespace Go.Proofs
open Go.Shelf
def YtobpljbkdffkbaaGreat.laysF_ren:Go.Shelf.Ren:=⟨fun|6=>96|15=>86|14=>118|28=>116|29=>117|20=>130|21=>131|22=>132|23=>133|24=>134|25=>135|26=>136|27=>137|46=>149|47=>126|48=>127|49=>150|50=>151|57=>158|n=>n,fun|22=>31|24=>65|25=>159|3=>3|39=>148|0=>0|53=>175|55=>177|4=>4|46=>169|45=>168|50=>50|5=>5|9=>9|66=>186|70=>190|76=>209|77=>210|n=>n,fun|n=>n⟩
theorem YtobpljbkdffkbaaGreat.laysF:Go.Proofs.SlLaysF0.n6 Tryz.prog YtobpljbkdffkbaaGreat.laysF_ren:={
 mixed:=by kernel_rfl
 f6:=⟨Tryz.f96.name,by decide,Tryz.func96.trans (congrArg some (by kernel_rfl))⟩
 f14:=⟨Tryz.f118.name,by decide,Tryz.func118.trans (congrArg some (by kernel_rfl))⟩
 f15:=Tryz.func86.trans (congrArg some (by kernel_rfl))
 f20:=⟨Tryz.f130.name,by decide,Tryz.func130.trans (congrArg some (by kernel_rfl))⟩
 f21:=⟨Tryz.f131.name,by decide,Tryz.func131.trans (congrArg some (by kernel_rfl))⟩
 f22:=⟨Tryz.f132.name,by decide,Tryz.func132.trans (congrArg some (by kernel_rfl))⟩
 f23:=⟨Tryz.f133.name,by decide,Tryz.func133.trans (congrArg some (by kernel_rfl))⟩
 f24:=⟨Tryz.f134.name,by decide,Tryz.func134.trans (congrArg some (by kernel_rfl))⟩
 f25:=⟨Tryz.f135.name,by decide,Tryz.func135.trans (congrArg some (by kernel_rfl))⟩
 f26:=⟨Tryz.f136.name,by decide,Tryz.func136.trans (congrArg some (by kernel_rfl))⟩
 f27:=⟨Tryz.f137.name,by decide,Tryz.func137.trans (congrArg some (by kernel_rfl))⟩
 f28:=Tryz.func116.trans (congrArg some (by kernel_rfl))
 f29:=Tryz.func117.trans (congrArg some (by kernel_rfl))
 f46:=⟨Tryz.f149.name,by decide,Tryz.func149.trans (congrArg some (by kernel_rfl))⟩
 f47:=Tryz.func126.trans (congrArg some (by kernel_rfl))
 f48:=Tryz.func127.trans (congrArg some (by kernel_rfl))
 f49:=⟨Tryz.f150.name,by decide,Tryz.func150.trans (congrArg some (by kernel_rfl))⟩
 f50:=⟨Tryz.f151.name,by decide,Tryz.func151.trans (congrArg some (by kernel_rfl))⟩
 f57:=⟨Tryz.f158.name,by decide,Tryz.func158.trans (congrArg some (by kernel_rfl))⟩
 t0:=Tryz.underlying0
 a0:=Tryz.isAgg0
 z0:=Tryz.sizeOf0
 v0:=Tryz.zeroValue0
 t3:=Tryz.underlying3
 a3:=Tryz.isAgg3
 z3:=Tryz.sizeOf3
 v3:=Tryz.zeroValue3
 t4:=Tryz.underlying4
 a4:=Tryz.isAgg4
 z4:=Tryz.sizeOf4
 v4:=Tryz.zeroValue4
 t5:=Tryz.underlying5
 a5:=Tryz.isAgg5
 z5:=Tryz.sizeOf5
 v5:=Tryz.zeroValue5
 t9:=Tryz.underlying9
 a9:=Tryz.isAgg9
 z9:=Tryz.sizeOf9
 v9:=Tryz.zeroValue9
 t22:=Tryz.underlying31
 a22:=Tryz.isAgg31
 z22:=Tryz.sizeOf31
 v22:=Tryz.zeroValue31
 t25:=Tryz.underlying159
 a25:=Tryz.isAgg159
 z25:=Tryz.sizeOf159
 v25:=Tryz.zeroValue159
 t39:=Tryz.underlying148
 a39:=Tryz.isAgg148
 z39:=Tryz.sizeOf148
 v39:=Tryz.zeroValue148
 t45:=Tryz.underlying168
 a45:=Tryz.isAgg168
 z45:=Tryz.sizeOf168
 v45:=Tryz.zeroValue168
 t46:=Tryz.underlying169
 a46:=Tryz.isAgg169
 z46:=Tryz.sizeOf169
 v46:=Tryz.zeroValue169
 t50:=Tryz.underlying50
 a50:=Tryz.isAgg50
 z50:=Tryz.sizeOf50
 v50:=Tryz.zeroValue50
 t53:=Tryz.underlying175
 a53:=Tryz.isAgg175
 z53:=Tryz.sizeOf175
 v53:=Tryz.zeroValue175
 t55:=Tryz.underlying177
 a55:=Tryz.isAgg177
 z55:=Tryz.sizeOf177
 v55:=Tryz.zeroValue177
 t66:=Tryz.underlying186
 a66:=Tryz.isAgg186
 z66:=Tryz.sizeOf186
 v66:=Tryz.zeroValue186
 t70:=Tryz.underlying190
 a70:=Tryz.isAgg190
 z70:=Tryz.sizeOf190
 v70:=Tryz.zeroValue190
 t76:=Tryz.underlying209
 a76:=Tryz.isAgg209
 z76:=Tryz.sizeOf209
 v76:=Tryz.zeroValue209
 t77:=Tryz.underlying210
 a77:=Tryz.isAgg210
 z77:=Tryz.sizeOf210
 v77:=Tryz.zeroValue210 }
def YtobpljbkdffkbaaGreat.laysC_ren:Go.Shelf.Ren:=⟨fun|5=>98|7=>119|n=>n,fun|22=>3|3=>3|4=>4|n=>n,fun|n=>n⟩
theorem YtobpljbkdffkbaaGreat.laysC:Go.Proofs.SlLaysC2.n5 Tryz.prog YtobpljbkdffkbaaGreat.laysC_ren:={
 mixed:=by kernel_rfl
 f5:=⟨Tryz.f98.name,by decide,Tryz.func98.trans (congrArg some (by kernel_rfl))⟩
 f7:=⟨Tryz.f119.name,by decide,Tryz.func119.trans (congrArg some (by kernel_rfl))⟩
 t3:=Tryz.underlying3
 a3:=Tryz.isAgg3
 z3:=Tryz.sizeOf3
 v3:=Tryz.zeroValue3
 t4:=Tryz.underlying4
 a4:=Tryz.isAgg4
 z4:=Tryz.sizeOf4
 v4:=Tryz.zeroValue4
 t22:=Tryz.underlying3
 a22:=Tryz.isAgg3
 z22:=Tryz.sizeOf3
 v22:=Tryz.zeroValue3 }
end Go.Proofs
namespace Go.Proofs.YtobpljbkdffkbaaGreat
open Go.RowKit Go.XK Go.Sort Go.Lib Go.Shelf Go.SX
instance:Inhabited TSpan:=⟨⟨0,0⟩⟩
def encS (x:TSpan):List Value:=[.int .i64 x.At,.int .i64 x.Size]
abbrev cfS (x y:TSpan):Int:=Lib.compareInt x.At y.At
theorem ltS (x y:TSpan):ltOf cfS x y=decide (x.At<y.At):=by
 unfold ltOf cfS Lib.compareInt
 by_cases h1:x.At<y.At
 ·simp [h1]
 ·by_cases h2:y.At<x.At<;>simp [h1,h2]
theorem swoS:SWO (ltOf cfS) where
 irrefl x:=by rw [ltS];simp
 trans x y z h1 h2:=by rw [ltS]at *;simp at *;omega
 ntrans x y z h1 h2:=by rw [ltS]at *;simp at *;omega
set_option maxHeartbeats 1000000 in
theorem closureS (x y:TSpan) (W:World):Calls Go.Proofs.Tryz.prog 97 #[.agg #[.int .i64 x.At,.int .i64 x.Size],.agg #[.int .i64 y.At,.int .i64 y.Size]] W fun e w'=>e=.returned (.int .i64 (cfS x y))∧∃ q os',w'=grow (W.drewN q) os':=by
 have hcon:=fun W'=>AnyG.cmp_Compare_int laysC x.At y.At W'
 change ∀ W',Calls Go.Proofs.Tryz.prog 98 _ _ _ at hcon;unfold cfS;generalize Lib.compareInt x.At y.At=r at hcon ⊢
 go_enter Go.Proofs.Tryz.func97,Go.Proofs.Tryz.ntmps97
 go_wp2_with (go_at_call 98;refine(hcon _).mono ?_;rintro e w' ⟨rfl,rfl⟩)
 go_ret
 exact⟨rfl,0,_,by rw [alloc_eq_grow,alloc_eq_grow,grow_grow];rfl⟩
theorem flat_get:∀ (l:List TSpan) (t:Nat),t<l.length*2→(l.map encS).flatten[t]?=some ((encS (l.toArray[t / 2]!))[t % 2]!)
 |[],t,h=>by simp at h
 |x::r,0,_=>by simp [encS]
 |x::r,1,_=>by simp [encS]
 |x::r,t+2,h=>by
   have ih:=flat_get r t (by simp at h;omega)
   have e1:(t+2) / 2=t / 2+1:=by omega
   have e2:(t+2) % 2=t % 2:=by omega
   have hlt:t / 2<r.length:=by simp at h;omega
   rw [e1,e2];have e3:(List.map encS (x::r)).flatten[t+2]?=(List.map encS r).flatten[t]?:=by simp [encS]
   rw [e3,ih];simp [hlt]
theorem flat_len (l:List TSpan):(l.map encS).flatten.length=l.length*2:=by
 induction l with
 |nil=>rfl
 |cons x r ih=>rw [List.map_cons,List.flatten_cons,List.length_append,ih,List.length_cons];show 2+_=_;omega
theorem flat_arr (l:List TSpan):flatK encS 2 l.toArray=(l.map encS).flatten.toArray:=by
 apply Array.ext';apply List.ext_getElem?;intro t
 by_cases h:t<l.length*2
 ·have hs:t<(flatK encS 2 l.toArray).size:=by rw [size_flatK];simpa using h
  have h2:=get_flatK encS 2 l.toArray t (by simpa using h)
  rw [getElem!_pos (flatK encS 2 l.toArray) t hs]at h2;rw [Array.getElem?_toList,Array.getElem?_eq_getElem hs,h2,flat_get l t h]
 ·rw [List.getElem?_eq_none (by simp;omega),List.getElem?_eq_none (by rw [flat_len];omega)]
theorem isAggS (w:World):(isAgg (laysF_ren.t 24)).run Go.Proofs.Tryz.prog w=.ok true w:=Go.Proofs.Tryz.isAgg65 w
theorem sizeS (w:World):(Go.sizeOf (laysF_ren.t 24)).run Go.Proofs.Tryz.prog w=.ok 2 w:=Go.Proofs.Tryz.sizeOf65 w
theorem sortf_at (blk off cap:Nat) (l:List TSpan) (w:World) (hH:HoldsK encS 2 w blk off l.toArray) (hblk:blk<w.heap.size) (hsz:l.length<4611686018427387904) :
   Calls Go.Proofs.Tryz.prog 96 #[.slice (some ⟨blk,off,none⟩) l.length cap,.func (.func 97) #[] #[]] w fun e w' =>
     e=.returned (.tuple #[])∧∃ (t:List TSpan) (n:Nat) (os:Array Obj),t.Perm l∧(∀ i j,i<j→j<t.length→t.toArray[i]!.At≤t.toArray[j]!.At)∧w'=grow (putRow id (Sort.ahead w n) blk off (t.map encS).flatten.toArray) os:=by
 have eg:∀ args w,(callFunc 97 args).run Go.Proofs.Tryz.prog w=.ok (.enter 97 args) w:=enters_of Go.Proofs.Tryz.func97 (by kernel_rfl) rfl
 have hcmp:CmpLays Go.Proofs.Tryz.prog 97 #[] encS 2 cfS blk off l.toArray.size w:=fun _ _ _ _ x y=>closureS x y _
 refine(AnyQ.slices_SortFunc laysF 2 isAggS sizeS encS (fun _=>rfl) (fun x v hv=>by simp [encS]at hv;rcases hv with rfl|rfl<;>rfl) cfS swoS 97 #[] blk off cap l.toArray w eg hcmp hH hblk (by simpa using hsz)).mono fun e w' ⟨he,d',n,os,hp,hs,hw⟩=>⟨he,d'.toList,n,os,?_,fun i j hij hj=>?_,?_⟩
 ·obtain⟨h1,_,h3⟩:=hp;have e1:d'.extract 0 l.toArray.size=d':=by rw [← h1];exact Array.extract_size
  rw [e1,Array.extract_size]at h3;exact h3
 ·have h:=hs i j (Nat.zero_le _) hij (by rw [← hp.1];simpa using hj)
  rw [ltS]at h;simp only [Array.toArray_toList];simpa using h
 ·rw [hw];unfold sortWorldK putRowK;rw [show d'=d'.toList.toArray by simp,flat_arr]
theorem holds_own {w:World} {g o n cap K:Nat} {cur:Array Value} {e:TypeId} {xs:List Value} (hh:CellsAt w g cur e) (hnc:n≤cap) (hcs:o+cap*K≤cur.size) (hx:xs.length=n*K) (htake:(cur.toList.drop o).take (n*K)=xs):Holds id w g o xs.toArray:=by
 obtain⟨fr,hh,hfr⟩:=hh.ex;have hm:n*K≤cap*K:=Nat.mul_le_mul_right _ hnc;intro j hj;have hj':j<n*K:=by simpa [hx] using hj
 have hf:w.frozen? ⟨g,o+j,none⟩=false:=by
   obtain⟨a,b⟩:=fr;simp only [World.frozen?,hh];rcases hfr with hfr|hfr
   ·cases hfr;simp
   ·simp only at hfr;simp;omega
 refine⟨?_,hf⟩;have e1:((cur.toList.drop o).take (n*K))[j]?=xs[j]?:=by rw [htake]
 rw [List.getElem?_take_of_lt hj',List.getElem?_drop]at e1;simp only [World.cell?,hh];simp only [Option.isSome_none,Bool.false_eq_true,if_false];rw [← Array.getElem?_toList,e1];simp;rw [List.getElem?_eq_getElem (by omega)]
 rfl
theorem sortf_any (l:List TSpan) (v:Value) (e:TypeId) (w:World) (h:OwnQ w 0 e 2 v l.length (l.map encS).flatten) (hm8:l.length≤140737488355328) :
   Calls Go.Proofs.Tryz.prog 96 [v,.func (.func 97) #[] #[]].toArray w fun r w'=>r=.returned (.tuple #[])∧Mod (fun b=>v.ownBlock=some b) w w'∧∃ t:List TSpan,t.Perm l∧(∀ i j,i<j→j<t.length→t.toArray[i]!.At≤t.toArray[j]!.At)∧OwnQ w' 0 e 2 v t.length (t.map encS).flatten:=by
 obtain⟨h1,h2⟩:=h;rcases h2 with ⟨rfl,hn⟩|⟨g,o,cap,cur,rfl,hg,hh,hnc,hcm,hcs,htake⟩
 ·have hl:l=[]:=List.eq_nil_of_length_eq_zero hn;subst hl;refine(AnyF.slices_SortFunc_none laysF none 0 (.func (.func 97) #[] #[]) w).mono fun r w' ⟨he,hw⟩=>⟨he,?_⟩
  subst hw;exact⟨(Ext.refl _).mod _,[],.refl _,fun i j _ hj=>absurd hj (by simp),by simp,.inl ⟨rfl,rfl⟩⟩
 ·have hlt:g<w.heap.size:=hh.lt;have hH:=holds_own hh hnc hcs (flat_len l) htake;have hH2:HoldsK encS 2 w g o l.toArray:=by unfold HoldsK;rw [flat_arr];exact hH
  refine(sortf_at g o cap l w hH2 hlt (by omega)).mono fun r w' ⟨he,t,n,os,hp,hs,hw⟩=>⟨he,?_⟩
  subst hw;obtain⟨fr,hb,hfr⟩:=hh.ex;have hb2:=hb
  have e2:(grow (putRow id (Sort.ahead w n) g o (t.map encS).flatten.toArray) os).heap[g]?=some (.cells (putCells id o (t.map encS).flatten.toArray cur) e fr):=by
    rw [heap_grow_old _ _ (by simpa using hlt)]
    simp [putRow,mapBlock,Sort.ahead,Array.getElem?_modify,hb,onCells]
  have hgr:w.grownBy (grow (putRow id (Sort.ahead w n) g o (t.map encS).flatten.toArray) os) (some g):=by
    refine⟨rfl,rfl,rfl,by simp,fun k hk hne=>?_⟩
    rw [heap_grow_old _ _ (by simpa using hk)]
    have:g≠k:=fun e=>hne (by rw [e])
    simp [putRow,mapBlock,Sort.ahead,Array.getElem?_modify,this]
  have htl:t.length=l.length:=hp.length_eq;refine⟨Mod.of_grown hgr (fun k hk=>hk),t,hp,hs,flat_len t,.inr ⟨g,o,cap,_,by rw [htl],hg,⟨⟨fr,e2,hfr.imp id fun h=>by simp [putCells];exact h⟩⟩,by omega,hcm,by simp [putCells];omega,?_⟩⟩
  apply List.ext_getElem?;intro j;have hf:=flat_len t
  by_cases hj:j<t.length*2
  ·rw [List.getElem?_take_of_lt hj,List.getElem?_drop,Array.getElem?_toList];have hj2:o+j<cur.size:=by omega
   have hj3:j<(t.map encS).flatten.length:=by omega
   have hj4:o+j<o+(t.map encS).flatten.length:=by omega
   have hj5:o+j-o=j:=by omega
   generalize (t.map encS).flatten=F at hj3 ⊢;unfold putCells;simp [hj2,hj3]
  ·rw [List.getElem?_take_eq_none (by omega),List.getElem?_eq_none (by omega)]
end Go.Proofs.YtobpljbkdffkbaaGreat
namespace Go.SX
open Go.XK Go.RowKit Go.Proofs.YtobpljbkdffkbaaGreat
section
variable {m:Mm}
theorem elts_sp {uss:List (List Value)}:∀ {l:List TSpan},Elts (KT 22) (TabD 22) m l uss→uss.flatten=(l.map encS).flatten∧∀ x∈l,InR x.At∧InR x.Size:=by
 induction uss with
 |nil =>
   intro l h
   cases l with
   |nil=>exact⟨rfl,fun _ h=>by cases h⟩
   |cons x l=>obtain⟨h1,_⟩:=h;simp at h1
 |cons us uss ih =>
   intro l h
   cases l with
   |nil=>obtain⟨h1,_⟩:=h;simp at h1
   |cons x l =>
     obtain⟨h1,h2,h3⟩:=h;obtain⟨e1,e2⟩:=ih (l:=l) ⟨Nat.succ.inj h1,fun q hq=>h2 q (List.mem_cons_of_mem _ hq),fun i y hy=>h3 (i+1) y hy⟩
     obtain⟨us',h4,h5⟩:=h3 0 x rfl;cases h4;obtain⟨u,r,rfl,⟨rfl,h6⟩,u2,r2,rfl,⟨rfl,h7⟩,h8⟩:=h5;cases(show r2=[]from h8);refine⟨by rw [List.flatten_cons,e1];rfl,fun y hy=>?_⟩
     rcases List.mem_cons.1 hy with rfl|hy
     ·exact⟨h6,h7⟩
     ·exact e2 y hy
theorem sp_elts {l:List TSpan} (h:∀ x∈l,InR x.At∧InR x.Size):Elts (KT 22) (TabD 22) m l (l.map encS):=by
 refine⟨List.length_map ..,fun q hq=>?_,fun i x hx=>?_⟩
 ·obtain⟨x,_,rfl⟩:=List.mem_map.1 hq;rfl
 ·have hm:=h x (List.mem_of_getElem? hx);exact⟨encS x,by rw [List.getElem?_map];exact congrArg _ hx,_,_,rfl,⟨rfl,hm.1⟩,_,_,rfl,⟨rfl,hm.2⟩,rfl⟩
end
abbrev spA (l:List (TabT 22)) (k:Nat):TSpan:=gt 22 l k
theorem spA_at {l:List (TabT 22)} {k:Nat} {x:TabT 22} (h:l[k]?=some x):spA l k=x:=by
 show l.getD k (TabZ 22)=x;rw [List.getD_eq_getElem?_getD,h];rfl
theorem hc_sortSp {z:Option Bool} {l:List (TabT 22)}:HC E0 96 1 [.osl 0,.clo 97 [] []] [(0,.arr 65 z 22 l)] (fun s H n=>s=.tup []∧(∃ t:List (TabT 22),List.Perm (α:=TabT 22) t l∧(∀ i j:Nat,i<j→j<List.length (α:=TabT 22) t→(spA t i).At≤(spA t j).At)∧H=[(0,.arr 65 none 22 t)])∧n=1):=by
 refine⟨by unfold FnOK;kernel_rfl,fun m ids vs hG hm hn hH hv=>?_⟩
 obtain⟨v,uss,h1,h2,h3,_,h5⟩:=hH.sat 0 _ rfl;obtain⟨e1,e2⟩:=elts_sp h3;rw [e1]at h2
 have hvs:vs=[v,.func (.func 97) #[] #[]]:=by
   rw [DenL]at hv;obtain⟨u,r,rfl,q1,q2⟩:=hv;rw [DenL]at q2;obtain⟨u2,r2,rfl,q3,q4⟩:=q2;rw [DenL]at q4;subst q4;rw [Den]at q1;rw [q1.1]at h1;cases h1;rw [Den]at q3;obtain⟨a,b,rfl,q5,q6⟩:=q3;rw [DenL]at q5 q6;subst q5 q6;rfl
 subst hvs;have hB:l.length≤140737488355328:=len_le h5;refine(sortf_any l v _ m.w h2 hB).mono fun e w' ⟨he,hmod,t,hp,hs,how⟩=>?_
 have hT:∀ b,v.ownBlock=some b→HT ids [(0,HB.arr 65 z 22 l)] b:=fun b hb=>⟨0,_,rfl,rfl,v,h1,hasB_of ((own_blk h2).1 hb)⟩
 have hnS:∀ b,v.ownBlock=some b→¬ m.S b:=fun b hb=>by
   obtain⟨i,hb0,hi,hf⟩:=hT b hb;exact hH.fpS i hb0 b hi hf
 have hin:∀ x∈t,InR x.At∧InR x.Size:=fun x hx=>e2 x (hp.mem_iff.1 hx)
 have k1:=sp_elts (m:=⟨w',m.S⟩) hin;have hlen:List.length (α:=TabT 22) t=List.length (α:=TabT 22) l:=hp.length_eq;have hL5:List.length (α:=TabT 22) t*BT 22≤LIM:=by rw [hlen];exact h5
 refine⟨.tuple #[],m.S,ids,.tup [],_,he,⟨rfl,⟨t,hp,fun i j hij hj=>?_,rfl⟩,hn⟩,⟨hmod.os,hmod.tape,hmod.output,hmod.size,fun k hk hne=>hmod.block k hk fun e=>hne (hT k e)⟩,⟨fun b hb=>⟨hb,hmod.block b (hm b hb) fun e=>hnS b e hb⟩,hmod.size⟩,fun b hb=>⟨Nat.lt_of_lt_of_le (hm b hb) hmod.size,.inl hb⟩,fun _ _=>rfl,by omega,heap_one ⟨v,_,h1,?_,k1,trivial,hL5⟩ fun b hf=>?_,fun b ⟨i,hb0,hi,hf⟩=>.inl ?_,by rw [Den];exact⟨[],rfl,by rw [DenL]⟩⟩
 ·have h:=hs i j hij hj;have hj:j<t.length:=hj;rw [getElem!_pos t.toArray i (by simp;omega),getElem!_pos t.toArray j (by simpa using hj)]at h
  have a1:=spA_at (l:=t) (k:=i) (x:=t[i]) (List.getElem?_eq_getElem (by omega))
  have a2:=spA_at (l:=t) (k:=j) (x:=t[j]) (List.getElem?_eq_getElem hj);rw [a1,a2];simpa using h
 ·exact how
 ·exact hH.fpS 0 _ b rfl hf
 ·rw [lk_cons]at hi;split at hi
  ·rename_i e;cases hi;subst e;exact⟨0,_,rfl,hf⟩
  ·cases hi
@[reducible] def a_DD:List SV→PR
 |[.v (.slice none 0 0),.clo 97 [] []]=>.ok (.tup [])
 |_=>.no
noncomputable def F_BR:Fact E0:=⟨96,a_DD,by unfold FnOK;kernel_rfl,by
 intro args m ids vs hG hm hv;unfold a_DD;split
 ·have hvs:vs=[.slice none 0 0,.func (.func 97) #[] #[]]:=by
    rw [DenL]at hv;obtain⟨u,r,rfl,q1,q2⟩:=hv;rw [DenL]at q2;obtain⟨u2,r2,rfl,q3,q4⟩:=q2;rw [DenL]at q4;subst q4;rw [Den]at q1;subst q1;rw [Den]at q3;obtain⟨a,b,rfl,q5,q6⟩:=q3;rw [DenL]at q5 q6;subst q5 q6;rfl
  subst hvs;refine(Go.Proofs.AnyF.slices_SortFunc_none laysF none 0 (.func (.func 97) #[] #[]) m.w).mono fun e w' ⟨he,hw⟩=>?_
  subst hw;exact⟨.tuple #[],m.S,he,Ext.refl _,⟨fun b hb=>⟨hb,rfl⟩,Nat.le_refl _⟩,fun b hb=>⟨hm b hb,.inl hb⟩,by rw [Den];exact⟨[],rfl,by rw [DenL]⟩⟩
 ·trivial⟩
end Go.SX
namespace Go.SX
open Go.XK Go.RowKit
def apR (a b:TSpan):Bool:=decide (a.At+a.Size≤b.At)||decide (b.At+b.Size≤a.At)
def apAll:List TSpan→Bool
 |[]=>true
 |a::r=>r.all (apR a)&&apAll r
def imApart (l:List (TabT 22)):Bool:=apAll (List.filter (α:=TabT 22) pSp l)
def ApOk (l:List (TabT 22)):Prop:=∀ x:TSpan,x∈l→0≤x.At∧x.At≤1099511627776∧x.Size≤1099511627776
theorem apAll_iff:∀ l:List TSpan,apAll l=true↔l.Pairwise fun a b=>apR a b=true
 |[]=>by simp [apAll]
 |a::r=>by rw [apAll,Bool.and_eq_true,List.all_eq_true,List.pairwise_cons,apAll_iff r]
theorem apR_symm {a b:TSpan} (h:apR a b=true):apR b a=true:=by
 unfold apR at *;rw [Bool.or_comm];exact h
theorem spA_get {l:List TSpan} {k:Nat} (h:k<l.length):spA l k=l[k]:=spA_at (List.getElem?_eq_getElem h)
theorem ap_chain {l t:List TSpan} (hp:t.Perm (l.filter pSp)) (hs:∀ i j:Nat,i<j→j<t.length→(spA t i).At≤(spA t j).At):imApart l=true↔∀ k:Nat,0<k→k<t.length→(spA t (k-1)).At+(spA t (k-1)).Size≤(spA t k).At:=by
 have hpos:∀ k:Nat,k<t.length→0<(spA t k).Size:=fun k hk=>by
   have hm:t[k]∈l.filter pSp:=hp.mem_iff.1 (List.getElem_mem hk);have h:=(List.mem_filter.1 hm).2;rw [spA_get hk];unfold pSp at h;simpa using h
 have h1:imApart l=true↔t.Pairwise fun a b=>apR a b=true:=by
   show apAll (l.filter pSp)=true↔_;rw [apAll_iff];exact(List.Perm.pairwise_iff (fun h=>apR_symm h) hp).symm
 rw [h1,List.pairwise_iff_getElem];constructor
 ·intro h k h0 hk;have h2:=h (k-1) k (by omega) hk (by omega)
  rw [← spA_get (show k-1<t.length by omega),← spA_get hk]at h2
  unfold apR at h2;rw [Bool.or_eq_true,decide_eq_true_iff,decide_eq_true_iff]at h2;have h3:=hs (k-1) k (by omega) hk
  have h4:=hpos k hk;omega
 ·intro h
  have key:∀ d i:Nat,i+1+d<t.length→(spA t i).At+(spA t i).Size≤(spA t (i+1+d)).At:=by
    intro d
    induction d with
    |zero=>intro i hi;exact h (i+1) (Nat.succ_pos _) hi
    |succ d ih =>
      intro i hi;have h5:=ih i (by omega)
      have h6:=hs (i+1+d) (i+1+(d+1)) (by omega) hi
      omega
  intro i j hi hj hij;have h7:=key (j-i-1) i (by omega)
  rw [show i+1+(j-i-1)=j by omega,spA_get hi,spA_get hj]at h7
  unfold apR;rw [Bool.or_eq_true,decide_eq_true_iff];exact .inl h7
theorem ap_yes {l t:List TSpan} (hp:t.Perm (l.filter pSp)) (hs:∀ i j:Nat,i<j→j<t.length→(spA t i).At≤(spA t j).At) (h:∀ k:Nat,0<k→k<t.length→(spA t (k-1)).At+(spA t (k-1)).Size≤(spA t k).At):imApart l=true:=(ap_chain hp hs).2 h
theorem ap_no {l t:List TSpan} (hp:t.Perm (l.filter pSp)) (hs:∀ i j:Nat,i<j→j<t.length→(spA t i).At≤(spA t j).At) {k:Nat} (h0:0<k) (hk:k<t.length) (h:¬ (spA t (k-1)).At+(spA t (k-1)).Size≤(spA t k).At):imApart l=false:=by
 cases e:imApart l with
 |false=>rfl
 |true=>exact absurd ((ap_chain hp hs).1 e k h0 hk) h
@[reducible] def a_DC:List SV→PR
 |[.v (.slice none 0 0),.clo 95 [] []]=>.ok (.v (.slice none 0 0))
 |_=>.no
theorem o_EQ:FOK 93 a_DC:=by
 intro args m ids vs hG hm hv;unfold a_DC;split
 ·skip
  refine calls_fact (DB:=[]) (IL:=[I_IndexFuncD]) (WL:=[]) (fn:=Proofs.Tryz.f93) rfl rfl rfl rfl rfl rfl (fun hk=>?_) m ids vs hG hm hv
  clear hG hm hv
  repeat' (refine bc_ fun g_=>?_;(conv at g_=>(arg 1;whnf));refine g_ ?_;clear g_;first|(intro bq;cases bq;rotate_left;(focus (intro hbq;exact absurd (hbq rfl) (by omega)));intro _)|((fail_if_success (apply cH_));(fail_if_success (apply uR_));apply Or.inl)|(apply rn_;exact rm_;exact me_)|(apply mt_;exact me_)|(apply ob0_;first|exact obc_|(exact of_decide_eq_true rfl))|(apply And.intro<;>(intro h;have hc:=h;(try exact nc1_ hc);(try exact nc2_ hc);try simp only [bs]at h))|(intro h;(try (unfold und at h;conv at h=>whnf));try simp only [bs]at h)|(apply wr0_;exact wrc_)|(apply wg0_;exact wgc_))
  all_goals (conv=>whnf)
  refine Or.inr (Or.inl ⟨1,?_⟩);conv=>whnf
  repeat' (refine bc_ fun g_=>?_;(conv at g_=>(arg 1;whnf));refine g_ ?_;clear g_;first|(intro bq;cases bq;rotate_left;(focus (intro hbq;exact absurd (hbq rfl) (by omega)));intro _)|((fail_if_success (apply cH_));(fail_if_success (apply uR_));apply Or.inl)|(apply rn_;exact rm_;exact me_)|(apply mt_;exact me_)|(apply ob0_;first|exact obc_|(exact of_decide_eq_true rfl))|(apply And.intro<;>(intro h;have hc:=h;(try exact nc1_ hc);(try exact nc2_ hc);try simp only [bs]at h))|(intro h;(try (unfold und at h;conv at h=>whnf));try simp only [bs]at h)|(apply wr0_;exact wrc_)|(apply wg0_;exact wgc_))
  all_goals (conv=>whnf)
  all_goals exact me_
 ·trivial
noncomputable def F_BQ:Fact E0:=⟨93,a_DC,by unfold FnOK;kernel_rfl,o_EQ⟩
theorem xb1 {b:Bool} (h:xorB true b=true):b=true:=by revert h;cases b<;>decide
theorem den_lz {m:Mm} {ids:List Value} {z:Option Bool} {c:Nat} {l:List (TabT c)} {v:Value} (h:Den m ids (.lst z c l) v):Den m ids (.lst none c l) v:=by
 rw [Den]at h ⊢;obtain⟨uss,h1,h2,h3,h4⟩:=h;exact⟨uss,h1,h2,h3,trivial,h4.2⟩
noncomputable def I_Bo:Inl E0:=Inl.of 94 Proofs.Tryz.f94 rfl rfl (by unfold FnOK;kernel_rfl)
noncomputable def I_BU:Inl E0:=Inl.of 66 Proofs.Tryz.f66 rfl rfl (by unfold FnOK;kernel_rfl)
noncomputable def I_Bg:Inl E0:=Inl.of 99 Proofs.Tryz.f99 rfl rfl (by unfold FnOK;kernel_rfl)
set_option maxHeartbeats 8000000 in
@[reducible] def a_CJ:List SV→PR
 |[.lst z 22 l]=>.ob (ApOk l) (.b (imApart l))
 |_=>.no
set_option maxHeartbeats 8000000 in
theorem o_DX:FOK 48 a_CJ:=by
 intro args m ids vs hG hm hv;unfold a_CJ;split
 ·rename_i z l;intro hb
  replace hv:DenL m ids [SV.lst none 22 l] vs:=by
    rw [DenL]at hv ⊢;obtain⟨u,r,e,q1,q2⟩:=hv;exact⟨u,r,e,den_lz q1,q2⟩
  refine calls_fact (DB:=[F_BQ,F_BR]) (IL:=[I_Bo,I_BU,I_Bg]) (WL:=[]) (fn:=Proofs.Tryz.f48) rfl rfl rfl rfl rfl rfl (fun hk=>?_) m ids vs hG hm hv
  clear hG hm hv;simp only [know]at hk;obtain⟨Z,hZ⟩:∃ Z,imApart l=Z:=⟨_,rfl⟩;rw [hZ];have hl1:List.length (α:=TabT 22) l≤140737488355328:=hk.1.2
  have hlb:(List.length (α:=TabT 22) []+List.length (α:=TabT 22) l)*BT 22≤140737488355328:=by
    rw [List.length_nil,Nat.zero_add];exact hk.1.1
  have hl2:List.length (α:=TabT 22) (@HAppend.hAppend (List (TabT 22)) (List (TabT 22)) (List (TabT 22)) _ [] l)≤140737488355328:=hl1
  repeat' (refine bc_ fun g_=>?_;(conv at g_=>(arg 1;whnf));refine g_ ?_;clear g_;first|(intro bq;cases bq;rotate_left;(focus (intro hbq;exact absurd (hbq rfl) (by omega)));intro _)|((fail_if_success (fail_if_success (apply Or.inl)));refine Or.inl ⟨_,_,_,_,[2],hc_delSp hl2,rfl,rfl,rfl,rfl,rfl,(And.intro rfl trivial),?_⟩;(rintro _ _ _ ⟨rfl,rfl,rfl⟩;refine And.intro rfl (And.intro rfl ?_)))|((fail_if_success (fail_if_success (apply Or.inl)));refine Or.inl ⟨_,_,_,_,[3],hc_sortSp , rfl,rfl,rfl,rfl,rfl,(And.intro rfl trivial),?_⟩;(rintro _ _ _ ⟨rfl,⟨t,hp,hs,rfl⟩,rfl⟩;refine And.intro rfl (And.intro rfl ?_)))|((fail_if_success (apply cH_));(fail_if_success (apply uR_));apply Or.inl)|(apply rn_;exact rm_;exact me_)|(apply mt_;exact me_)|((fail_if_success (fail_if_success (apply Exists.intro)));first|(refine ⟨[1,1,1,0,1,1,1,1,0,0,1,1,1,1,0,1,1,0,1,1,1],[0,1,2,4,5,10,11,16,3,6,7,8,9,12,13,14,15,17,18,19,20],(by decide +kernel),?_⟩;(conv=>whnf);(fail_if_success (apply fa_))))|(apply ob0_;first|(exact hlb)|exact obc_|(exact of_decide_eq_true rfl))|(apply And.intro<;>(intro h;have hc:=h;(try exact nc1_ hc);(try exact nc2_ hc);try simp only [bs]at h))|(intro h;(try (unfold und at h;conv at h=>whnf));try simp only [bs]at h)|(apply wr0_;exact wrc_)|(apply wg0_;exact wgc_))
  all_goals (conv=>whnf)
  ·refine Or.inr (Or.inl ⟨1,?_⟩);conv=>whnf
   repeat' (refine bc_ fun g_=>?_;(conv at g_=>(arg 1;whnf));refine g_ ?_;clear g_;first|(intro bq;cases bq;rotate_left;(focus (intro hbq;exact absurd (hbq rfl) (by omega)));intro _)|((fail_if_success (fail_if_success (apply Or.inl)));refine Or.inl ⟨_,_,_,_,[2],hc_delSp hl2,rfl,rfl,rfl,rfl,rfl,(And.intro rfl trivial),?_⟩;(rintro _ _ _ ⟨rfl,rfl,rfl⟩;refine And.intro rfl (And.intro rfl ?_)))|((fail_if_success (fail_if_success (apply Or.inl)));refine Or.inl ⟨_,_,_,_,[3],hc_sortSp , rfl,rfl,rfl,rfl,rfl,(And.intro rfl trivial),?_⟩;(rintro _ _ _ ⟨rfl,⟨t,hp,hs,rfl⟩,rfl⟩;refine And.intro rfl (And.intro rfl ?_)))|((fail_if_success (apply cH_));(fail_if_success (apply uR_));apply Or.inl)|(apply rn_;exact rm_;exact me_)|(apply mt_;exact me_)|((fail_if_success (fail_if_success (apply Exists.intro)));first|(refine ⟨[1,1,1,0,1,1,1,1,0,0,1,1,1,1,0,1,1,0,1,1,1],[0,1,2,4,5,10,11,16,3,6,7,8,9,12,13,14,15,17,18,19,20],(by decide +kernel),?_⟩;(conv=>whnf);(fail_if_success (apply fa_))))|(apply ob0_;first|(exact hlb)|exact obc_|(exact of_decide_eq_true rfl))|(apply And.intro<;>(intro h;have hc:=h;(try exact nc1_ hc);(try exact nc2_ hc);try simp only [bs]at h))|(intro h;(try (unfold und at h;conv at h=>whnf));try simp only [bs]at h)|(apply wr0_;exact wrc_)|(apply wg0_;exact wgc_))
   all_goals (conv=>whnf)
   have hl0:l=[]:=(by assumption:_=true→l=[]) (xb1 (by assumption))
   subst hl0;exact hZ
  ·have hp':List.Perm (α:=TSpan) t (List.filter (α:=TSpan) pSp l):=hp;have hln:List.length (α:=TSpan) t≤List.length (α:=TSpan) l:=by rw [hp'.length_eq];exact List.length_filter_le _ _
   have hB:∀ k:Nat,k<List.length (α:=TabT 22) t→0≤(spA t k).At∧(spA t k).At≤1099511627776∧0<(spA t k).Size∧(spA t k).Size≤1099511627776:=fun k hk=>by
     have hm:t[k]∈List.filter (α:=TSpan) pSp l:=hp'.mem_iff.1 (List.getElem_mem hk);have h1:=List.mem_filter.1 hm;have h2:=hb _ h1.1;have h3:=h1.2;rw [spA_get (l:=t) hk];unfold pSp at h3;have h4:0<(t[k]:TSpan).Size:=by simpa using h3
     exact⟨h2.1,h2.2.1,h4,h2.2.2⟩
   refine Or.inr (Or.inr ⟨[],[9],[],[],[1,7,8],[],?_⟩);conv=>whnf
   refine⟨fun(s:Int×Unit) (_:Unit)=>∃ k:Nat,s.1=k∧k≤List.length (α:=TabT 22) t∧∀ j:Nat,0<j→j<k→(spA t (j-1)).At+(spA t (j-1)).Size≤(spA t j).At,fun(s:Int×Unit) _=>((List.length (α:=TabT 22) t:Nat)-s.1).toNat,?_⟩
   conv=>whnf
   refine Ini.mk ⟨0,rfl,Nat.zero_le _,fun j h1 h2=>absurd h2 (Nat.not_lt_zero _)⟩ me_ ?_
   rintro⟨(k:Int),_⟩ _ ⟨k,hk1,hk2,hA⟩;replace hk1:_=(k:Int):=hk1;subst hk1;replace hk2:k≤List.length (α:=TabT 22) t:=hk2;refine gK fun K hK=>?_
   by_cases hkl:k<List.length (α:=TabT 22) t
   ·have hd:decide ((k:Int)<(List.length (α:=TabT 22) t:Nat))=true:=decide_eq_true (by omega)
    have hB1:=hB k hkl
    by_cases hk0:k=0
    ·subst hk0
     repeat' ((try refine gKe (by assumption) ?_);refine bc_ fun g_=>?_;(conv at g_=>(arg 1;whnf));refine g_ ?_;clear g_;first|(intro bq;cases bq;rotate_left;(focus (intro hbq;exact absurd (hbq rfl) (by omega)));intro _)|((fail_if_success (fail_if_success (apply Exists.intro)));refine Exists.intro _ (And.intro hw1 ?_))|((fail_if_success (apply cH_));(fail_if_success (apply uR_));apply Or.inl)|(apply rn_;exact rm_;exact me_)|(apply mt_;exact me_)|((fail_if_success (fail_if_success (apply Exists.intro)));first|(refine ⟨[1,1,1,0,1,1,1,1,0,0,1,1,1,1,0,1,1,0,1,1,1],[0,1,2,4,5,10,11,16,3,6,7,8,9,12,13,14,15,17,18,19,20],(by decide +kernel),?_⟩;(conv=>whnf);(fail_if_success (apply fa_))))|(apply ob0_;first|(exact ho1)|exact obc_|(exact of_decide_eq_true rfl))|(apply And.intro<;>(intro h;have hc:=h;(try exact nc1_ hc);(try exact nc2_ hc);(try exact nc3_ hc);(try exact nc4_ hc);try simp only [bs]at h))|(intro h;(try (unfold und at h;conv at h=>whnf));try simp only [bs]at h)|(apply wr0_;exact wrc_)|(apply wg0_;exact wgc_)|((fail_if_success (fail_if_success (apply Exists.intro)));first|refine Exists.intro _ (And.intro rfl ?_)|refine Exists.intro _ (And.intro (fun _=>rfl) ?_))|refine gKe (by assumption) ?_)
     all_goals ((try refine gKe (by assumption) ?_);(conv=>whnf))
     exact⟨hkl,fun j h1 h2=>absurd h1 (Nat.not_lt.2 (Nat.le_of_lt_succ h2))⟩
    ·obtain⟨k,rfl⟩:∃ q,k=q+1:=⟨k-1,by omega⟩
     have hB2:=hB k (by omega)
     have e1:(((k+1:Nat):Int)-1).toNat=k:=by omega
     have e2:(((k+1:Nat):Int)).toNat=k+1:=by omega
     have hw:IntKind.i64.wrap ((gt 22 t (((k+1:Nat):Int)-1).toNat:TSpan).At+(gt 22 t (((k+1:Nat):Int)-1).toNat:TSpan).Size)=(spA t k).At+(spA t k).Size:=by
       rw [e1];exact wrap_id (n:=(spA t k).At+(spA t k).Size) ⟨by omega,by omega⟩
     have q1:InR (((k+1:Nat):Int)-1):=⟨by omega,by omega⟩
     repeat' ((try refine gKe (by assumption) ?_);refine bc_ fun g_=>?_;(conv at g_=>(arg 1;whnf));refine g_ ?_;clear g_;first|(intro bq;cases bq;rotate_left;(focus (intro hbq;exact absurd (hbq rfl) (by omega)));intro _)|((fail_if_success (fail_if_success (apply Exists.intro)));refine Exists.intro _ (And.intro hw1 ?_))|((fail_if_success (apply cH_));(fail_if_success (apply uR_));apply Or.inl)|(apply rn_;exact rm_;exact me_)|(apply mt_;exact me_)|((fail_if_success (fail_if_success (apply Exists.intro)));first|(refine ⟨[1,1,1,0,1,1,1,1,0,0,1,1,1,1,0,1,1,0,1,1,1],[0,1,2,4,5,10,11,16,3,6,7,8,9,12,13,14,15,17,18,19,20],(by decide +kernel),?_⟩;(conv=>whnf);(fail_if_success (apply fa_))))|(apply ob0_;first|(exact ho1)|exact obc_|(exact of_decide_eq_true rfl))|(apply And.intro<;>(intro h;have hc:=h;(try exact nc1_ hc);(try exact nc2_ hc);(try exact nc3_ hc);(try exact nc4_ hc);try simp only [bs]at h))|(intro h;(try (unfold und at h;conv at h=>whnf));try simp only [bs]at h)|(apply wr0_;exact wrc_)|(apply wg0_;exact wgc_)|((fail_if_success (fail_if_success (apply Exists.intro)));first|refine Exists.intro _ (And.intro rfl ?_)|refine Exists.intro _ (And.intro (fun _=>rfl) ?_))|refine gKe (by assumption) ?_)
     all_goals ((try refine gKe (by assumption) ?_);(conv=>whnf))
     ·refine(hZ.symm.trans (ap_no hp' hs (k:=k+1) (by omega) hkl fun hle=>?_)).symm
      have h9:¬ (_≤_):=h.2;rw [hw]at h9;exact h9 hle
     ·refine⟨hkl,fun j h1 h2=>?_⟩
      rcases Nat.lt_succ_iff_lt_or_eq.1 h2 with h2|rfl
      ·exact hA j h1 h2
      ·have h9:(((k+1:Nat):Int)=0)∨(IntKind.i64.wrap ((gt 22 t (((k+1:Nat):Int)-1).toNat:TSpan).At+(gt 22 t (((k+1:Nat):Int)-1).toNat:TSpan).Size)≤(gt 22 t (k+1):TSpan).At):=by assumption
       rw [hw]at h9;rcases h9 with h9|h9
       ·omega
       ·exact h9
   have hd:decide ((k:Int)<(List.length (α:=TabT 22) t:Nat))=false:=decide_eq_false (by omega)
   have hZ2:Z=true:=hZ.symm.trans (ap_yes hp' hs fun j h1 h2=>hA j h1 (by have:j<List.length (α:=TabT 22) t:=h2;omega))
   repeat' ((try refine gKe (by assumption) ?_);refine bc_ fun g_=>?_;(conv at g_=>(arg 1;whnf));refine g_ ?_;clear g_;first|(intro bq;cases bq;rotate_left;(focus (intro hbq;exact absurd (hbq rfl) (by omega)));intro _)|((fail_if_success (apply cH_));(fail_if_success (apply uR_));apply Or.inl)|(apply rn_;exact rm_;exact me_)|(apply mt_;exact me_)|((fail_if_success (fail_if_success (apply Exists.intro)));first|(refine ⟨[1,1,1,0,1,1,1,1,0,0,1,1,1,1,0,1,1,0,1,1,1],[0,1,2,4,5,10,11,16,3,6,7,8,9,12,13,14,15,17,18,19,20],(by decide +kernel),?_⟩;(conv=>whnf);(fail_if_success (apply fa_))))|(apply ob0_;first|exact obc_|(exact of_decide_eq_true rfl))|(apply And.intro<;>(intro h;have hc:=h;(try exact nc1_ hc);(try exact nc2_ hc);(try exact nc3_ hc);(try exact nc4_ hc);try simp only [bs]at h))|(intro h;(try (unfold und at h;conv at h=>whnf));try simp only [bs]at h)|(apply wr0_;exact wrc_)|(apply wg0_;exact wgc_)|refine gKe (by assumption) ?_)
   all_goals ((try refine gKe (by assumption) ?_);(conv=>whnf))
   all_goals exact hZ2.symm
 ·trivial
noncomputable def F_AV:Fact E0:=Fact.co [.lst none 22 []] ⟨48,a_CJ,by unfold FnOK;kernel_rfl,o_DX⟩
end Go.SX
