/- A part of the proof (texts SI). -/
import Derived.Test.YtobpljbkdffkbaaGreatP07
set_option linter.all false
set_option maxRecDepth 100000
namespace Go.SX
open Go.XK Go.RowKit
structure Ob (p:Prop):Prop where
 ok:p
def setH (σ:St) (i:Nat) (hb:HB):St:={ σ with heap:=(i,hb)::σ.heap }
def newN (σ:St) (hb:HB):St:={ σ with heap:=(σ.nb,hb)::σ.heap,nb:=σ.nb+1 }
abbrev SV.und:SV:=.v undef
def fO (n:Nat) (k:Nat→Prop):Prop:=match n with
 |0=>k 0
 |n+1=>k (n+1)
def fM (n:Nat) (k:Nat→Prop):Prop:=match n with
 |0=>k 0
 |1=>k 1
 |2=>k 2
 |3=>k 3
 |4=>k 4
 |5=>k 5
 |6=>k 6
 |7=>k 7
 |8=>k 8
 |9=>k 9
 |10=>k 10
 |11=>k 11
 |12=>k 12
 |13=>k 13
 |14=>k 14
 |15=>k 15
 |16=>k 16
 |17=>k 17
 |18=>k 18
 |19=>k 19
 |20=>k 20
 |21=>k 21
 |22=>k 22
 |23=>k 23
 |n+24=>k (n+24)
def fN (n:Nat) (k:Nat→Prop):Prop:=match n with
 |0=>k 0
 |1=>k 1
 |2=>k 2
 |3=>k 3
 |4=>k 4
 |5=>k 5
 |6=>k 6
 |7=>k 7
 |8=>k 8
 |9=>k 9
 |10=>k 10
 |11=>k 11
 |12=>k 12
 |13=>k 13
 |14=>k 14
 |15=>k 15
 |16=>k 16
 |17=>k 17
 |18=>k 18
 |19=>k 19
 |20=>k 20
 |21=>k 21
 |22=>k 22
 |23=>k 23
 |n+24=>fM n fun m=>k (m+24)
mutual
def fS:SV→(SV→Prop)→Prop
 |.v x,k=>k (.v x)
 |.i n,k=>k (.i n)
 |.b n,k=>k (.b n)
 |.w8 n,k=>k (.w8 n)
 |.w32 n,k=>k (.w32 n)
 |.w64 n,k=>k (.w64 n)
 |.str n,k=>k (.str n)
 |.loc i o,k=>fN i fun i=>fO o fun o=>k (.loc i o)
 |.osl i,k=>fN i fun i=>k (.osl i)
 |.nso i,k=>fN i fun i=>k (.nso i)
 |.noe i n,k=>fN i fun i=>k (.noe i n)
 |.sub i c lo hi,k=>fN i fun i=>fO c fun c=>k (.sub i c lo hi)
 |.oel i c n o,k=>fN i fun i=>fO c fun c=>fO o fun o=>k (.oel i c n o)
 |.vel i c N n o,k=>fN i fun i=>fO c fun c=>fO N fun N=>fO o fun o=>k (.vel i c N n o)
 |.vsl i c N lo hi,k=>fN i fun i=>fO c fun c=>fO N fun N=>k (.vsl i c N lo hi)
 |.av c N l,k=>k (.av c N l)
 |.lst z c l,k=>k (.lst z c l)
 |.fp cs o,k=>fSL cs fun cs=>fO o fun o=>k (.fp cs o)
 |.fvec c N l,k=>k (.fvec c N l)
 |.fsl cs,k=>fSL cs fun cs=>k (.fsl cs)
 |.agg l,k=>fSL l fun l=>k (.agg l)
 |.tup l,k=>fSL l fun l=>k (.tup l)
 |.clo f a b,k=>fSL a fun a=>fSL b fun b=>k (.clo f a b)
 |.ifc t x,k=>fS x fun x=>k (.ifc t x)
 |.un,k=>k .un
def fSL:List SV→(List SV→Prop)→Prop
 |[],k=>k []
 |s::r,k=>fS s fun s=>fSL r fun r=>k (s::r)
end
def fHB:HB→(HB→Prop)→Prop
 |.row T cs,k=>fSL cs fun cs=>k (.row T cs)
 |.fro T cs,k=>fSL cs fun cs=>k (.fro T cs)
 |.arr T z c l,k=>k (.arr T z c l)
 |.far z c l,k=>k (.far z c l)
 |.vec T N c l,k=>k (.vec T N c l)
 |.mp a b l,k=>k (.mp a b l)
 |.nst T T' c' c l h,k=>match h with
   |none=>k (.nst T T' c' c l none)
   |some (n,j)=>fN j fun j=>k (.nst T T' c' c l (some (n,j)))
 |.nfr z c l,k=>k (.nfr z c l)
 |.ext o A,k=>k (.ext o A)
 |.gone,k=>k .gone
def fT {α:Type}:List α→(List α→Prop)→Prop
 |[],k=>k []
 |x::r,k=>k (x::r)
def fE1:List (Nat×SV)→(List (Nat×SV)→Prop)→Prop
 |[],k=>k []
 |(t,s)::r,k=>fS s fun s=>fT r fun r=>k ((t,s)::r)
def fG1:List (Nat×(Path×SV))→(List (Nat×(Path×SV))→Prop)→Prop
 |[],k=>k []
 |(t,(π,s))::r,k=>fS s fun s=>fT r fun r=>k ((t,(π,s))::r)
def fK1:List (Nat×Bool)→(List (Nat×Bool)→Prop)→Prop
 |[],k=>k []
 |x::r,k=>fT r fun r=>k (x::r)
def fHn:Nat→List (Nat×HB)→(List (Nat×HB)→Prop)→Prop
 |_,[],k=>k []
 |0,p::r,k=>k (p::r)
 |n+1,(i,h)::r,k=>fN i fun i=>fHB h fun h=>fHn n r fun r=>k ((i,h)::r)
def thenS (σ:St) (K:St→Prop):Prop:=match σ with
 |⟨env,gen,kn,heap,nb,n0⟩=>fE1 env fun env=>fG1 gen fun gen=>fK1 kn fun kn=>fHn 4 heap fun heap=>fN nb fun nb=>fN n0 fun n0=>K ⟨env,gen,kn,heap,nb,n0⟩
def fE:List (Nat×SV)→(List (Nat×SV)→Prop)→Prop
 |[],k=>k []
 |(t,s)::r,k=>fO t fun t=>fS s fun s=>fE r fun r=>k ((t,s)::r)
def fH:List (Nat×HB)→(List (Nat×HB)→Prop)→Prop
 |[],k=>k []
 |(i,h)::r,k=>fN i fun i=>fHB h fun h=>fH r fun r=>k ((i,h)::r)
def deepS (σ:St) (K:St→Prop):Prop:=match σ with
 |⟨env,gen,kn,heap,nb,n0⟩=>fE env fun env=>fG1 gen fun gen=>fK1 kn fun kn=>fH heap fun heap=>fN nb fun nb=>fN n0 fun n0=>K ⟨env,gen,kn,heap,nb,n0⟩
theorem fO_eq (n:Nat) (k:Nat→Prop):fO n k=k n:=by cases n<;>rfl
theorem fM_eq (n:Nat) (k:Nat→Prop):fM n k=k n:=by unfold fM;split<;>rfl
theorem fN_eq (n:Nat) (k:Nat→Prop):fN n k=k n:=by
 unfold fN;split
 all_goals first|rfl|rw [fM_eq]
mutual
theorem fS_eq:∀ (s:SV) (k:SV→Prop),fS s k=k s
 |.v x,k=>by rw [fS]
 |.i n,k=>by rw [fS]
 |.b n,k=>by rw [fS]
 |.w8 n,k=>by rw [fS]
 |.w32 n,k=>by rw [fS]
 |.w64 n,k=>by rw [fS]
 |.str n,k=>by rw [fS]
 |.loc i o,k=>by rw [fS,fN_eq,fO_eq]
 |.osl i,k=>by rw [fS,fN_eq]
 |.nso i,k=>by rw [fS,fN_eq]
 |.noe i n,k=>by rw [fS,fN_eq]
 |.sub i c lo hi,k=>by rw [fS,fN_eq,fO_eq]
 |.oel i c n o,k=>by rw [fS,fN_eq,fO_eq,fO_eq]
 |.vel i c N n o,k=>by rw [fS,fN_eq,fO_eq,fO_eq,fO_eq]
 |.vsl i c N lo hi,k=>by rw [fS,fN_eq,fO_eq,fO_eq]
 |.av c N l,k=>by rw [fS]
 |.lst z c l,k=>by rw [fS]
 |.fp cs o,k=>by rw [fS,fSL_eq cs,fO_eq]
 |.fvec c N l,k=>by rw [fS]
 |.fsl cs,k=>by rw [fS,fSL_eq cs]
 |.agg l,k=>by rw [fS,fSL_eq l]
 |.tup l,k=>by rw [fS,fSL_eq l]
 |.clo f a b,k=>by rw [fS,fSL_eq a,fSL_eq b]
 |.ifc t x,k=>by rw [fS,fS_eq x]
 |.un,k=>by rw [fS]
theorem fSL_eq:∀ (l:List SV) (k:List SV→Prop),fSL l k=k l
 |[],k=>by rw [fSL]
 |s::r,k=>by rw [fSL,fS_eq s,fSL_eq r]
end
theorem fHB_eq (h:HB) (k:HB→Prop):fHB h k=k h:=by
 cases h<;>simp only [fHB,fSL_eq]<;>(split<;>simp only [fN_eq])
theorem fT_eq {α:Type} (l:List α) (k:List α→Prop):fT l k=k l:=by cases l<;>rfl
theorem fE1_eq (l:List (Nat×SV)) (k:List (Nat×SV)→Prop):fE1 l k=k l:=by
 cases l with
 |nil=>rfl
 |cons p r=>obtain⟨t,s⟩:=p;rw [fE1,fS_eq,fT_eq]
theorem fG1_eq (l:List (Nat×(Path×SV))) (k:List (Nat×(Path×SV))→Prop):fG1 l k=k l:=by
 cases l with
 |nil=>rfl
 |cons p r=>obtain⟨t,π,s⟩:=p;rw [fG1,fS_eq,fT_eq]
theorem fK1_eq (l:List (Nat×Bool)) (k:List (Nat×Bool)→Prop):fK1 l k=k l:=by
 cases l with
 |nil=>rfl
 |cons p r=>rw [fK1,fT_eq]
theorem fHn_eq:∀ (n:Nat) (l:List (Nat×HB)) (k:List (Nat×HB)→Prop),fHn n l k=k l
 |0,[],_=>rfl
 |_+1,[],_=>rfl
 |0,_::_,_=>rfl
 |n+1,(i,h)::r,k=>by rw [fHn,fN_eq,fHB_eq,fHn_eq n r]
theorem fE_eq:∀ (l:List (Nat×SV)) (k:List (Nat×SV)→Prop),fE l k=k l
 |[],_=>rfl
 |(t,s)::r,k=>by rw [fE,fO_eq,fS_eq,fE_eq r]
theorem fH_eq:∀ (l:List (Nat×HB)) (k:List (Nat×HB)→Prop),fH l k=k l
 |[],_=>rfl
 |(t,s)::r,k=>by rw [fH,fN_eq,fHB_eq,fH_eq r]
theorem thenS_eq (σ:St) (K:St→Prop):thenS σ K=K σ:=by
 cases σ;simp only [thenS,fE1_eq,fG1_eq,fK1_eq,fHn_eq,fN_eq]
theorem deepS_eq (σ:St) (K:St→Prop):deepS σ K=K σ:=by
 cases σ;simp only [deepS,fE_eq,fG1_eq,fK1_eq,fH_eq,fN_eq]
def sp:Nat→List SV→List SV×List SV
 |0,l=>([],l)
 |_+1,[]=>([],[])
 |n+1,x::r=>match sp n r with
   |(a,b)=>(x::a,b)
theorem sp_eq:∀ (n:Nat) (l:List SV),sp n l=(l.take n,l.drop n)
 |0,l=>by simp [sp]
 |_+1,[]=>by simp [sp]
 |n+1,x::r=>by simp [sp,sp_eq n r]
def decN (c:Nat):Nat→List SV→Option (List (TabT c))
 |0,[]=>some []
 |0,_::_=>none
 |n+1,cs=>match sp (KT c) cs with
   |(a,b)=>match DC c a,decN c n b with
     |some x,some l=>some (x::l)
     |_,_=>none
def rep:Nat→List SV→List SV
 |0,_=>[]
 |n+1,l=>l++rep n l
def cpy {α:Type} (l:List α) (lo hi:Nat) (l2:List α):List α:=l.take lo++l2.take (hi-lo)++l.drop (lo+min (hi-lo) l2.length)
section
variable (E:En)
def toAv (c N:Nat) (s:SV):SV:=match s with
 |.agg cs=>match decN c N cs with
   |some l=>.av c N l
   |none=>s
 |s=>s
def vcStore (σ:St) (d:Option Tmp) (T:TypeId) (x s:SV) (K:St→Prop):Prop:=match sizeE E T with
 |none=>False
 |some k=>match x with
   |.loc i o=>match lk σ.heap i with
     |some (.row T' cs)=>match Nat.beq (len (cellsOf s)) k,Nat.ble (o+k) (len cs),allOne (cellsOf s)with
       |true,true,true=>K (setE (setH σ i (.row T' (over cs o (cellsOf s)))) d .und)
       |_,_,_=>False
     |some (.vec T' N c _)=>match toAv c N s,o with
       |.av c' N' l',0=>match castL c' c l',Nat.beq N N',Nat.beq k (N*KT c)with
         |some l,true,true=>K (setE (setH σ i (.vec T' N c l)) d .und)
         |_,_,_=>False
       |_,_=>False
     |_=>False
   |.oel i c n o=>match lk σ.heap i with
     |some (.arr T' z c' l')=>match castL c' c l',Nat.beq (len (cellsOf s)) k,Nat.ble (o+k) (KT c)&&Nat.ble 1 k,allOne (cellsOf s)with
       |some l,true,true,true=>match ES c (gt c l n.toNat)with
         |some cs=>match DC c (over cs o (cellsOf s))with
           |some y=>K (setE (setH σ i (.arr T' z c (l.set n.toNat y))) d .und)
           |none=>False
         |none=>False
       |_,_,_,_=>False
     |_=>False
   |.noe i n=>match lk σ.heap i,s with
     |some (.nst T1 T2 c' c ls (some (k0,_))),.osl j=>match lk σ.heap j,Nat.beq k 1 with
       |some (.arr ..),true=>Ob (n=k0)∧K (setE (setH σ i (.nst T1 T2 c' c ls (some (n,j)))) d .und)
       |_,_=>False
     |_,_=>False
   |.vel i c N n o=>match lk σ.heap i with
     |some (.vec T' N' c' l')=>match castL c' c l',Nat.beq (len (cellsOf s)) k,Nat.ble (o+k) (KT c)&&Nat.ble 1 k,allOne (cellsOf s),Nat.beq N N' with
       |some l,true,true,true,true=>match ES c (gt c l n.toNat)with
         |some cs=>match DC c (over cs o (cellsOf s))with
           |some y=>K (setE (setH σ i (.vec T' N c (l.set n.toNat y))) d .und)
           |none=>False
         |none=>False
       |_,_,_,_,_=>False
     |_=>False
   |_=>False
def vcNew (σ:St) (d:Option Tmp) (T:TypeId) (cs:List SV) (K:St→Prop):Prop:=match E.TI T with
 |some ⟨.arr n e,k,_,_,_,_⟩=>match codeOf E e with
   |some c=>match decN c n cs,Nat.beq k (n*KT c)with
     |some l,true=>K (setE (newN σ (.vec T n c l)) d (.loc σ.nb 0))
     |_,_=>False
   |none=>False
 |some ⟨_,k,_,_,_,_⟩=>match Nat.beq (len cs) k,allOne cs with
   |true,true=>K (setE (newN σ (.row T cs)) d (.loc σ.nb 0))
   |_,_=>False
 |none=>False
def rowC (E:En) (e:TypeId) (c':Nat):Option (TypeId×Nat×TabT c'):=match E.TI e with
 |some ⟨.slice e2,1,_,_,.slice none 0 0,_⟩=>match E.TI e2 with
   |some i2=>match RW c' i2.code [],Nat.beq (KT c') 1 with
     |some z,true=>some (e2,i2.code,z)
     |_,_=>none
   |none=>none
 |_=>none
def vcMake (σ:St) (d:Option Tmp) (T:TypeId) (n m:Int) (K:St→Prop):Prop:=match elemC E T with
 |some (e,i)=>match rowC E e i.code with
  |some (e2,c,z)=>Ob (0≤n∧n=m∧n*BT i.code≤140737488355328)∧K (setE (newN σ (.nst e e2 i.code c (List.replicate n.toNat z) none)) d (.nso σ.nb))
  |none=>match DC i.code (svs i.z.cells.toList)with
   |some z=>Ob (0≤n∧n=m∧n*BT i.code≤140737488355328)∧K (setE (newN σ (.arr e (some false) i.code (List.replicate n.toNat z))) d (.osl σ.nb))
   |none=>False
 |none=>False
def vcBuildS (σ:St) (d:Option Tmp) (T:TypeId) (n:Nat) (ps:List (Nat×SV)) (K:St→Prop):Prop:=match elemC E T with
 |some (e,i)=>match n,ps with
   |0,[]=>K (setE (newN σ (.arr e (some false) i.code [])) d (.osl σ.nb))
   |0,_::_=>False
   |n+1,ps=>match partsA (KT i.code) ps (rep (n+1) (svs i.z.cells.toList)),Nat.ble ((n+1)*i.size) 16777216&&Nat.ble 1 i.size,Nat.ble ((n+1)*i.bytes) 140737488355328 with
     |some cs,true,true=>match decN i.code (n+1) cs with
       |some l=>K (setE (newN σ (.arr e (some false) i.code l)) d (.osl σ.nb))
       |none=>False
     |_,_,_=>False
 |none=>False
def vcBuildF (σ:St) (d:Option Tmp) (T:TypeId) (n:Nat) (ps:List (Nat×SV)) (K:St→Prop):Prop:=match E.TI T with
 |some ⟨.slice e,_,_,_,_,_⟩=>match E.TI e with
   |some i=>match partsA 1 ps (rep n (svs i.z.cells.toList)),Nat.beq i.size 1,Nat.ble 1 n&&Nat.ble n 1000 with
     |some cs,true,true=>match Nat.beq (len cs) n with
       |true=>K (setE σ d (.fsl cs))
       |false=>False
     |_,_,_=>False
   |none=>False
 |_=>False
def subz (σ:St) (s:SV):St×SV:=match s with
 |.sub j c lo hi=>match lk σ.heap j with
   |some (.arr e _ c' l)=>match castL c' c l with
     |some l=>(newN (setH σ j .gone) (.arr e none c ((l.drop lo.toNat).take (hi.toNat-lo.toNat))),.osl σ.nb)
     |none=>(σ,s)
   |_=>(σ,s)
 |s=>(σ,s)
def vcAppend (σ:St) (d:Option Tmp) (T:TypeId) (s:SV) (l2:(c:Nat)→Option (List (TabT c))) (K:St→Prop):Prop:=match elemC E T with
 |some (e,i)=>match l2 i.code with
   |some m=>match s with
     |.v (.slice none 0 0)=>Ob (m.length*BT i.code≤140737488355328)∧K (setE (newN σ (.arr e none i.code m)) d (.osl σ.nb))
     |.osl j=>match lk σ.heap j with
       |some (.arr e' _ c' l')=>match castL c' i.code l',Nat.beq e e' with
         |some l,true=>Ob ((l.length+m.length)*BT i.code≤140737488355328)∧K (setE (newN (setH σ j .gone) (.arr e none i.code (l++m))) d (.osl σ.nb))
         |_,_=>False
       |_=>False
     |_=>False
   |none=>False
 |none=>False
def dstOf (σ:St) (c:Nat):SV→Option (Nat×TypeId×Option Bool×List (TabT c)×Nat×Nat)
 |.osl j=>match lk σ.heap j with
   |some (.arr e z c' l')=>match castL c' c l' with
     |some l=>some (j,e,z,l,0,l.length)
     |none=>none
   |_=>none
 |.sub j c0 lo hi=>match Nat.beq c0 c,lk σ.heap j with
   |true,some (.arr e z c' l')=>match castL c' c l' with
     |some l=>some (j,e,z,l,lo.toNat,hi.toNat)
     |none=>none
   |_,_=>none
 |_=>none
def vcCopy (σ:St) (d:Option Tmp) (T:TypeId) (s:SV) (l2:(c:Nat)→Option (List (TabT c))) (K:St→Prop):Prop:=match elemC E T with
 |some (_,i)=>match l2 i.code,dstOf σ i.code s,Nat.beq i.size 1 with
   |some m,some (j,e,z,l,lo,hi),true=>K (setE (setH σ j (.arr e z i.code (cpy l lo hi m))) d (.i (min (hi-lo) m.length:Nat)))
   |_,_,_=>False
 |none=>False
def vcCopyS (σ:St) (d:Option Tmp) (T:TypeId) (s:SV) (t:ByteArray) (K:St→Prop):Prop:=match elemC E T with
 |some (e0,_)=>match E.TI e0,dstOf σ 3 s with
   |some ⟨.int .u8,_,_,3,_,_⟩,some (j,e,z,l,lo,hi)=>Ob (t.size≤hi-lo)∧K (setE (setH σ j (.arr e z 3 (cpy l lo hi t.data.toList))) d (.i t.size))
   |_,_=>False
 |none=>False
def vcClear (σ:St) (d:Option Tmp) (T:TypeId) (s:SV) (K:St→Prop):Prop:=match d,elemC E T with
 |none,some (_,i)=>match DC i.code (svs i.z.cells.toList),dstOf σ i.code s with
   |some z0,some (j,e,z,l,lo,hi)=>K (setH σ j (.arr e z i.code (cpy l lo hi (List.replicate (hi-lo) z0))))
   |_,_=>False
 |_,_=>False
def vcAppendS (σ:St) (d:Option Tmp) (T:TypeId) (s:SV) (t:ByteArray) (K:St→Prop):Prop:=match elemC E T with
 |some (e0,_)=>match E.TI e0 with
   |some ⟨.int .u8,_,_,3,_,_⟩=>vcAppend E σ d T s (fun c=>castL 3 c t.data.toList) K
   |_=>False
 |none=>False
def vcMap (σ:St) (d:Option Tmp) (T:TypeId) (K:St→Prop):Prop:=match E.TI T with
 |some ⟨.map kt vt,_,_,_,_,_⟩=>match codeOf E kt,codeOf E vt with
   |some kc,some vc=>match E.KO kt kc,gnd vc with
     |true,true=>K (setE (newN σ (.mp kc vc [])) d (.osl σ.nb))
     |_,_=>False
   |_,_=>False
 |_=>False
def vcPut (σ:St) (d:Option Tmp) (T:TypeId) (x k s:SV) (K:St→Prop):Prop:=match E.TI T,x with
 |some ⟨.map kt _,_,_,_,_,_⟩,.osl i=>match lk σ.heap i with
   |some (.mp kc vc l)=>match E.KO kt kc,gnd kc,DV kc k,DV vc s,gnd vc with
     |true,true,some x,some y,true=>K (setE (setH σ i (.mp kc vc (mputT l x y))) d .und)
     |_,_,_,_,_=>False
   |_=>False
 |_,_=>False
def vcBytes (σ:St) (d:Option Tmp) (T:TypeId) (x:SV) (K:St→Prop):Prop:=match elemC E T,x with
 |some (e,i),.str s=>match Nat.beq i.code 3,E.TI e with
   |true,some ⟨.int .u8,_,_,_,_,_⟩=>Ob ((s.size:Int)≤140737488355328)∧K (setE σ d (.lst none 3 s.data.toList))
   |_,_=>False
 |_,_=>False
def vcBytesO (σ:St) (d:Option Tmp) (T:TypeId) (x:SV) (K:St→Prop):Prop:=match elemC E T,x with
 |some (e,i),.str s=>match Nat.beq i.code 3,E.TI e with
   |true,some ⟨.int .u8,_,_,_,_,_⟩=>Ob ((s.size:Int)≤140737488355328)∧K (setE (newN σ (.arr e none 3 s.data.toList)) d (.osl σ.nb))
   |_,_=>False
 |_,_=>False
def vcMark (σ:St) (d:Option Tmp) (S T:TypeId) (x:SV) (K:St→Prop):Prop:=match Nat.beq S T,E.TI S,x with
 |true,some ⟨.slice e,_,_,_,_,_⟩,.osl j=>match E.TI e,lk σ.heap j with
   |some ⟨.int .u8,_,_,_,_,_⟩,some (.arr e' z 3 (y::l))=>match Nat.beq e e' with
     |true=>K (setE (setH σ j .gone) d (.lst none 3 (y::l)))
     |false=>False
   |_,_=>False
 |_,_,_=>False
end
def retN (σ:St) (i:Nat):St:=match Nat.ble σ.n0 i,lk σ.heap i with
 |true,some (.nst T T' c' c ls (some (k,j)))=>match lk σ.heap j with
   |some (.arr e _ c2 l2)=>match Nat.beq e T',Nat.beq c2 c,RW c' c2 l2 with
     |true,true,some x=>setH (setH σ j .gone) i (.nst T T' c' c (ls.set k.toNat x) none)
     |_,_,_=>σ
   |_=>σ
 |_,_=>σ
def vcLend (E:En) (σ:St) (d:Option Tmp) (T:TypeId) (i:Nat) (n:Int) (K:St→Prop):Prop:=match kdOf E T,Nat.ble σ.n0 i,lk (retN σ i).heap i with
 |.flat,true,some (.nst T1 T2 c' c ls none)=>match ES c' (gt c' ls n.toNat)with
   |some [.lst none c2 l]=>K (setE (newN (setH (retN σ i) i (.nst T1 T2 c' c ls (some (n,σ.nb)))) (.arr T2 none c2 l)) d (.osl σ.nb))
   |_=>False
 |_,_,_=>False
def flat (f:SV→List Nat):List SV→List Nat
 |[]=>[]
 |s::r=>f s++flat f r
def mapL (f:SV→SV):List SV→List SV
 |[]=>[]
 |s::r=>f s::mapL f r
def frF (σ:St):Nat→SV→List Nat
 |0,_=>[]
 |n+1,s=>match s with
   |.osl i=>match lk σ.heap i with
     |some (.arr ..)=>[i]
     |_=>[]
   |.nso i=>match lk σ.heap i with
     |some (.nst _ _ _ _ _ none)=>[i]
     |_=>[]
   |.loc i _=>match lk σ.heap i with
     |some (.row _ cs)=>i::flat (frF σ n) cs
     |_=>[]
   |.agg l=>flat (frF σ n) l
   |.tup l=>flat (frF σ n) l
   |.fsl l=>flat (frF σ n) l
   |.clo _ a b=>flat (frF σ n) a++flat (frF σ n) b
   |.ifc _ x=>frF σ n x
   |_=>[]
def frN (σ:St) (s:SV):List Nat:=frF σ 6 s
def frL (σ:St) (l:List SV):List Nat:=flat (frF σ 6) l
def frz (σ:St):List Nat→St
 |[]=>σ
 |i::r=>match lk σ.heap i with
   |some (.arr _ z c l)=>frz (setH σ i (.far z c l)) r
   |some (.row T cs)=>frz (setH σ i (.fro T cs)) r
   |some (.nst _ _ c' _ ls none)=>frz (setH σ i (.nfr none c' ls)) r
   |_=>frz σ r
def vwF (σ:St):Nat→SV→SV
 |0,s=>s
 |n+1,s=>match s with
   |.osl i=>match lk σ.heap i with
     |some (.far z c l)=>.lst z c l
     |_=>.osl i
   |.nso i=>match lk σ.heap i with
     |some (.nfr z c l)=>.lst z c l
     |_=>.nso i
   |.loc i o=>match lk σ.heap i with
     |some (.fro _ cs)=>.fp (mapL (vwF σ n) cs) o
     |_=>.loc i o
   |.agg l=>.agg (mapL (vwF σ n) l)
   |.tup l=>.tup (mapL (vwF σ n) l)
   |.fsl l=>.fsl (mapL (vwF σ n) l)
   |.clo f a b=>.clo f (mapL (vwF σ n) a) (mapL (vwF σ n) b)
   |.ifc t x=>.ifc t (vwF σ n x)
   |s=>s
def vw (σ:St) (s:SV):SV:=vwF σ 6 s
def vwL (σ:St) (l:List SV):List SV:=mapL (vwF σ 6) l
def frP (σ:St):List (Nat×SV)→List Nat
 |[]=>[]
 |(_,s)::r=>frN σ s++frP σ r
def vwP (σ:St):List (Nat×SV)→List (Nat×SV)
 |[]=>[]
 |(i,s)::r=>(i,vw σ s)::vwP σ r
structure Fact (E:En) where
 f:FuncId
 app:List SV→PR
 fn:FnOK E.P f
 ok:∀ args (m:Mm) (ids vs:List Value),Glob E.G m→(∀ b,m.S b→b<m.w.heap.size)→DenL m ids args vs →
   PRok (app args) fun s=>Calls E.P f vs.toArray m.w fun e w'=>∃ v S',e=.returned v∧Ext m.w w'∧m.le ⟨w',S'⟩∧(∀ b,S' b→b<w'.heap.size∧(m.S b∨m.w.heap.size≤b))∧Den ⟨w',S'⟩ [] s v
def isNo:PR→Bool
 |.no=>true
 |_=>false
def findF {E:En}:List (Fact E)→FuncId→List SV→PR
 |[],_,_=>.no
 |F::r,f,args=>match Nat.beq F.f f with
   |true=>match isNo (F.app args)with
     |true=>findF r f args
     |false=>F.app args
   |false=>findF r f args
def HT (ids:List Value) (H:List (Nat×HB)) (b:Nat):Prop:=∃ i hb,lk H i=some hb∧Fp ids i hb b
structure HC (E:En) (f:FuncId) (n:Nat) (args:List SV) (H:List (Nat×HB)) (R:SV→List (Nat×HB)→Nat→Prop):Prop where
 fn:FnOK E.P f
 ok:∀ (m:Mm) (ids vs:List Value),Glob E.G m→(∀ b,m.S b→b<m.w.heap.size)→ids.length=n→HeapOK m ids H→DenL m ids args vs →
   Calls E.P f vs.toArray m.w fun e w'=>∃ v S' ids' s H',e=.returned v∧R s H' ids'.length∧Mod (HT ids H) m.w w'∧m.le ⟨w',S'⟩∧(∀ b,S' b→b<w'.heap.size∧(m.S b∨HT ids H b∨m.w.heap.size≤b)) ∧
     (∀ i,i<n→ids'[i]?=ids[i]?)∧n≤ids'.length∧HeapOK ⟨w',S'⟩ ids' H'∧(∀ b,HT ids' H' b→HT ids H b∨m.w.heap.size≤b)∧Den ⟨w',S'⟩ ids' s v
def renB (n z:Nat) (r:List Nat):HB→HB
 |.row T cs=>.row T (renL n z r cs)
 |.fro T cs=>.fro T (renL n z r cs)
 |.nst T T' c' c l (some (k,j))=>.nst T T' c' c l (some (k,rn n z r j))
 |h=>h
def renH (n z:Nat) (r:List Nat):List (Nat×HB)→List (Nat×HB)
 |[]=>[]
 |(i,h)::l=>(rn n z r i,renB n z r h)::renH n z r l
def gones:List Nat→List (Nat×HB)
 |[]=>[]
 |i::r=>(i,.gone)::gones r
def memN (i:Nat):List Nat→Bool
 |[]=>false
 |j::r=>match Nat.beq i j with
   |true=>true
   |false=>memN i r
def nodupN:List Nat→Bool
 |[]=>true
 |i::r=>match memN i r with
   |true=>false
   |false=>nodupN r
def allLt (n:Nat):List Nat→Bool
 |[]=>true
 |i::r=>match Nat.blt i n with
   |true=>allLt n r
   |false=>false
def upFrom:Nat→Nat→List Nat
 |_,0=>[]
 |k,n+1=>k::upFrom (k+1) n
def live:List Nat→List (Nat×HB)→List (Nat×HB)
 |_,[]=>[]
 |seen,(i,h)::r=>match memN i seen with
   |true=>live seen r
   |false=>match h with
     |.gone=>live (i::seen) r
     |h=>(i,h)::live (i::seen) r
def keysH:List (Nat×HB)→List Nat
 |[]=>[]
 |(i,_)::r=>i::keysH r
def HM (σ:St) (n z:Nat) (r:List Nat):List (Nat×HB)→Prop
 |[]=>True
 |(i,h)::l=>lk σ.heap (rn n z r i)=some (renB n z r h)∧HM σ n z r l
def aftH (σ:St) (n:Nat) (r:List Nat) (H':List (Nat×HB)) (n':Nat):St :=
 { σ with heap:=renH 0 0 (r++upFrom σ.nb (n'-n)) H'++(gones r++σ.heap),nb:=σ.nb+(n'-n) }
def callH (E:En) (σ:St) (d:Option Tmp) (f:FuncId) (args:List SV) (K:St→Prop):Prop :=
 ∃ n A H R r,HC E f n A H R∧nodupN r=true∧allLt σ.nb r=true∧len r=n∧renL 0 σ.nb r A=args∧allLt n (keysH H)=true∧HM σ 0 σ.nb r (live [] H) ∧
   ∀ s H' n',R s H' n'→allLt n' (keysH H')=true∧Nat.ble n n'=true∧deepS (setE (aftH σ n r H' n') d (ren 0 0 (r++upFrom σ.nb (n'-n)) s)) K
abbrev Ic:=FuncId→Option (List SV→St→(SV→St→Prop)→Prop)
def ICOK (E:En) (ic:Ic):Prop:=∀ (f:FuncId) (g:List SV→St→(SV→St→Prop)→Prop),ic f=some g→∀ (args:List SV) (σ:St) (K:SV→St→Prop) (m:Mm) (ids vs:List Value),
 Glob E.G m→(∀ b,m.S b→b<m.w.heap.size)→ids.length=σ.nb→HeapOK m ids σ.heap→DenL m ids args vs→g args σ K →
 FnOK E.P f∧Calls E.P f vs.toArray m.w fun e w'=>∃ v S' ids' s σ',e=.returned v∧K s σ'∧Mod (HT ids σ.heap) m.w w'∧m.le ⟨w',S'⟩∧(∀ b,S' b→b<w'.heap.size∧(m.S b∨HT ids σ.heap b∨m.w.heap.size≤b)) ∧
   (∀ i,i<σ.nb→ids'[i]?=ids[i]?)∧ids'.length=σ'.nb∧HeapOK ⟨w',S'⟩ ids' σ'.heap∧(∀ b,HT ids' σ'.heap b→HT ids σ.heap b∨m.w.heap.size≤b)∧Den ⟨w',S'⟩ ids' s v
structure Db (E:En) where
 facts:List (Fact E)
 ic:Ic
 ok:ICOK E ic
def callA (E:En) (ic:Ic) (σ:St) (d:Option Tmp) (f:FuncId) (args:List SV) (K:St→Prop):Prop:=match ic f with
 |some g=>g args σ fun s σ'=>deepS (setE { σ with heap:=σ'.heap,nb:=σ'.nb } d s) K
 |none=>callH E σ d f args K∨∃ fs,callH E (frz σ fs) d f (vwL (frz σ fs) args) K
def pok (σ:St):Path→Path→Bool
 |_,[]=>true
 |pre,(t,b)::r=>match σ.slot pre t with
   |some (.b _)=>pok σ (pre++[(t,b)]) r
   |_=>false
def undA (σ:St):Path→Path→Prop→Prop→Prop
 |_,[],c,p=>c→p
 |pre,(t,b)::r,c,p=>match σ.slot pre t with
   |some (.b q)=>undA σ (pre++[(t,b)]) r (c∧q=b) p
   |_=>c→p
def und (σ:St) (pre:Path):Path→Prop→Prop
 |[],p=>p
 |(t,b)::r,p=>match σ.slot pre t with
   |some (.b q)=>undA σ (pre++[(t,b)]) r (q=b) p
   |_=>p
def hyK (σ:St) (π:Path) (p k:Prop):Prop:=match π with
 |[]=>p→k
 |g::r=>und σ [] (g::r) p→k
def obK (σ:St) (π:Path) (p k:Prop):Prop:=match π with
 |[]=>Ob p∧k
 |g::r=>Ob (und σ [] (g::r) p)∧k
def exK (σ:St) (π:Path) (x:Int) (k:Int→Prop):Prop:=match π with
 |[]=>∃ r,IntKind.i64.wrap x=r∧k r
 |g::q=>∃ r,und σ [] (g::q) (IntKind.i64.wrap x=r)∧k r
def vcPR (σ:St) (π:Path) (r:PR) (K:SV→Prop):Prop:=match r with
 |.ok s=>K s
 |.ob p s=>obK σ π p (K s)
 |.hy p s=>hyK σ π p (K s)
 |.hb h p s=>hyK σ π h (obK σ π p (K s))
 |.ar h x=>hyK σ π h (exK σ π x fun r=>K (.i r))
 |.ap h p x=>hyK σ π h (obK σ π p (exK σ π x fun r=>K (.i r)))
 |.no=>False
theorem hyK_iff {σ:St} {π:Path} {p k:Prop}:hyK σ π p k↔(und σ [] π p→k):=by cases π<;>exact Iff.rfl
theorem obK_iff {σ:St} {π:Path} {p k:Prop}:obK σ π p k↔(Ob (und σ [] π p)∧k):=by cases π<;>exact Iff.rfl
theorem exK_iff {σ:St} {π:Path} {x:Int} {k:Int→Prop}:exK σ π x k↔∃ r,und σ [] π (IntKind.i64.wrap x=r)∧k r:=by cases π<;>exact Iff.rfl
theorem vcPR_iff {σ:St} {π:Path} {r:PR} {K:SV→Prop}:vcPR σ π r K↔match r with
 |.ok s=>K s
 |.ob p s=>Ob (und σ [] π p)∧K s
 |.hy p s=>und σ [] π p→K s
 |.hb h p s=>und σ [] π h→Ob (und σ [] π p)∧K s
 |.ar h x=>und σ [] π h→∃ r,und σ [] π (IntKind.i64.wrap x=r)∧K (.i r)
 |.ap h p x=>und σ [] π h→Ob (und σ [] π p)∧∃ r,und σ [] π (IntKind.i64.wrap x=r)∧K (.i r)
 |.no=>False:=by cases r<;>simp only [vcPR,hyK_iff,obK_iff,exK_iff]
def gpath (ops:Array Oper) (σ:St) (j:Nat) (b:Bool):Option Path:=match ops[j]? with
 |some ⟨some t,_,_,_,_,_⟩=>match lk σ.gen t with
   |some (ρ,_)=>some (ρ++[(t,b)])
   |none=>some [(t,b)]
 |_=>none
def noP (d:Option Tmp) (π:Path):Bool:=match d with
 |none=>true
 |some t=>noPath t π
mutual
def gv:SV→Bool
 |.i _=>true
 |.b _=>true
 |.w8 _=>true
 |.w32 _=>true
 |.w64 _=>true
 |.str _=>true
 |.tup l=>gvL l
 |.agg l=>gvL l
 |_=>false
def gvL:List SV→Bool
 |[]=>true
 |s::r=>match gv s with
   |true=>gvL r
   |false=>false
end
def kP (E:En) (k:Nat) (o:Op):Bool:=match k with
 |1=>!looks E o
 |_=>true
def gPR:PR→Bool
 |.ok s=>gv s
 |.ob _ s=>gv s
 |.hy _ s=>gv s
 |.hb _ _ s=>gv s
 |.ar _ _=>true
 |.ap _ _ _=>true
 |.no=>false
def kF (k:Nat) (r:PR):Bool:=match k with
 |0=>gPR r
 |1=>false
 |_=>true
def callee (E:En) (σ:St) (π:Path) (c:Call):Option (FuncId×List SV):=match c.callee with
 |.value f=>match σ.ev E π f,σ.evs E π c.args.toList with
   |some (.clo f x y),some l=>some (f,x++(l++y))
   |_,_=>none
 |.invoke r n=>match σ.ev E π r,σ.evs E π c.args.toList with
   |some (.ifc t x),some l=>match E.MT t n with
     |some (f,none)=>some (f,x::l)
     |some (f,some T)=>match x with
       |.loc i 0=>match loadE E σ T (.loc i 0)with
         |.ok s=>some (f,s::l)
         |_=>none
       |_=>none
     |none=>none
   |_,_=>none
 |_=>none
def callOf:Op→Option Call
 |.call c=>some c
 |_=>none
def kL (k:Nat) (o:Op):Bool:=match k with
 |0=>false
 |1=>false
 |2=>match o with
   |.alloc _=>true
   |.box ..=>true
   |.buildSlice ..=>true
   |.makeSlice ..=>true
   |.makeMap ..=>true
   |.convert ..=>true
   |.binOp ..=>true
   |_=>false
 |_=>true
section
variable (E:En) (DB:Db E) (N:Nat)
def vcL (ic:Ic) (k:Nat) (σ:St) (d:Option Tmp) (o:Op) (K:St→Prop):Prop:=match o with
 |.alloc T=>match E.TI T with
   |some i=>vcNew E σ d T (svs i.z.cells.toList) K
   |none=>False
 |.box T x=>match σ.ev E [] x with
   |some (.av c N l)=>match E.TI T with
     |some ⟨.arr n _,k,_,_,_,_⟩=>match Nat.beq n N,Nat.beq k (N*KT c)with
       |true,true=>K (setE (newN σ (.vec T N c l)) d (.loc σ.nb 0))
       |_,_=>False
     |_=>False
   |some s=>match allOne (cellsOf s)with
     |true=>vcNew E σ d T (cellsOf s) K
     |false=>False
   |none=>False
 |.store T x y=>match σ.ev E [] x,σ.ev E [] y with
   |some a,some s=>vcStore E σ d T a s K
   |_,_=>False
 |.load T x=>match σ.ev E [] x with
   |some (.noe i n)=>vcLend E σ d T i n K
   |_=>False
 |.makeSlice T n c=>match σ.ev E [] n,σ.ev E [] c with
   |some (.i n),some (.i m)=>vcMake E σ d T n m K
   |_,_=>False
 |.buildSlice T n ps=>match σ.pevs E [] ps.toList with
   |some l=>match elemC E T with
     |some _=>vcBuildS E (frz σ (frP σ l)) d T n (vwP (frz σ (frP σ l)) l) K
     |none=>vcBuildF E σ d T n l K
   |none=>False
 |.makeMap T none=>vcMap E σ d T K
 |.mapUpdate T m k x=>match σ.ev E [] m,σ.ev E [] k,σ.ev E [] x with
   |some a,some b,some s=>vcPut E σ d T a (unav b) (unav s) K
   |_,_,_=>False
 |.insert T m k x=>match σ.ev E [] m,σ.ev E [] k,σ.ev E [] x with
   |some a,some b,some s=>vcPut E σ d T a (unav b) (unav s) K
   |_,_,_=>False
 |.convert s t x=>match isStr E s,σ.ev E [] x with
   |true,some a=>vcBytes E σ d t a K∨vcBytesO E σ d t a K
   |false,some a=>match Nat.beq k 2 with
     |true=>False
     |false=>vcMark E σ d s t a K
   |_,_=>False
 |.call ⟨.builtin .append,xs,ts⟩=>match xs.toList,ts.toList with
   |[x,y],[T,U]=>match σ.ev E [] x,σ.ev E [] y,Nat.beq T U with
     |some a,some b,true=>match subz σ a with
       |(σ',a')=>vcAppend E σ' d T a' (fun c=>viewL σ c b) K
     |some a,some (.str t),false=>match isStr E U with
       |true=>match subz σ a with
         |(σ',a')=>vcAppendS E σ' d T a' t K
       |false=>False
     |_,_,_=>False
   |_,_=>False
 |.call ⟨.builtin .copy,xs,ts⟩=>match xs.toList,ts.toList with
   |[x,y],[T,U]=>match σ.ev E [] x,σ.ev E [] y with
     |some a,some b=>match isStr E U,b with
       |true,.str t=>vcCopyS E σ d T a t K
       |false,b=>vcCopy E σ d T a (fun c=>viewL σ c b) K
       |_,_=>False
     |_,_=>False
   |_,_=>False
 |.call ⟨.builtin .clear,xs,ts⟩=>match xs.toList,ts.toList with
   |[x],[T]=>match σ.ev E [] x with
     |some a=>vcClear E σ d T a K
     |none=>False
   |_,_=>False
 |.call c=>match callee E σ [] c with
   |some (f,args)=>callA E ic σ d f args K
   |none=>False
 |.binOp op T x y _=>match σ.ev E [] x,σ.ev E [] y with
   |some (.lst z c l),some (.v (.slice none 0 0))=>match eqOp op with
     |some e=>match isNo (nilB E e T (some true))with
       |false=>∀ b:Bool,(b=true→l=[])→K (setE σ d (.b (xorB e b)))
       |true=>False
     |none=>False
   |some (.osl i),some (.v (.slice none 0 0))=>match lk σ.heap i,eqOp op with
     |some (.arr _ _ _ l),some e=>match isNo (nilB E e T (some true))with
       |false=>∀ b:Bool,(b=true→l=[])→K (setE σ d (.b (xorB e b)))
       |true=>False
     |_,_=>False
   |some (.sub _ _ lo hi),some (.v (.slice none 0 0))=>match eqOp op with
     |some e=>match isNo (nilB E e T (some true))with
       |false=>∀ b:Bool,(b=true→lo=hi)→K (setE σ d (.b (xorB e b)))
       |true=>False
     |none=>False
   |_,_=>False
 |_=>False
def prOf (σ:St) (π:Path) (k:Nat) (o:Op):PR×St:=match callOf o with
 |some c=>match callee E σ π c with
   |some (f,args) =>
     match findF DB.facts f (vwL (frz σ (frL σ args)) args)with
     |.no=>(.no,σ)
     |r=>match kF k r with
       |true=>(r,frz σ (frL σ args))
       |false=>(.no,σ)
   |none=>match kP E k o with
     |true=>(evP E σ π o,σ)
     |false=>(.no,σ)
 |none=>match kP E k o with
   |true=>(evP E σ π o,σ)
   |false=>(.no,σ)
def vcU (k:Nat) (o:Oper) (σ:St) (K:St→Prop):Prop:=match prOf E DB σ [] k o.op with
 |(.no,_)=>match kL k o.op with
   |true=>vcL E DB.ic k σ o.dst o.op K
   |false=>False
 |(r,σ')=>vcPR σ [] r fun s=>K (setE σ' o.dst s)
def vcG (k:Nat) (o:Oper) (π0:Path):Nat→St→(St→Prop)→Prop
 |0,_,_=>False
 |n+1,σ,K=>match fresh σ o.dst with
   |false=>False
   |true=>match red σ.kn π0 with
     |.dead=>K (setE σ o.dst .und)
     |.path []=>vcU E DB k o σ K
     |.path ((t,_)::_)=>match σ.slot [] t with
       |some (.b q)=>(q=true→vcG k o π0 n { σ with kn:=(t,true)::σ.kn } K)∧(q=false→vcG k o π0 n { σ with kn:=(t,false)::σ.kn } K)
       |_=>False
def vcOp (ops:Array Oper) (k:Nat) (o:Oper) (σ:St) (K:St→Prop):Prop:=match fresh σ o.dst&&dOK o.dst N with
 |false=>False
 |true=>match o.guard with
   |none=>vcU E DB k o σ K
   |some (j,b)=>match gpath ops σ j b with
     |none=>False
     |some π0=>match red σ.kn π0 with
       |.dead=>K (setE σ o.dst .und)
       |.path []=>vcU E DB k o σ K
       |.path π=>match pok σ [] π,noP o.dst π with
         |true,true=>match prOf E DB σ π k o.op with
           |(.no,_)=>vcG E DB k o π0 (len π0+1) σ K
           |(r,σ')=>vcPR σ π r fun s=>K (setE (setG σ' o.dst π s) o.dst .un)
         |_,_=>False
def vcOps (ops:Array Oper) (kd:Nat→Nat):List Nat→St→(St→Prop)→Prop
 |[],σ,K=>thenS { σ with gen:=[],kn:=[] } K
 |i::l,σ,K=>match ops[i]? with
   |some o=>vcOp E DB N ops (kd i) o σ fun σ'=>thenS σ' fun σ'=>vcOps ops kd l σ' K
   |none=>False
inductive Plan
 |done
 |take (i:Nat) (p:Plan)
 |one (i:Nat) (p:Plan)
 |two (i:Nat) (p:Plan) (j:Nat) (q:Plan)
 |three (i:Nat) (p:Plan) (j:Nat) (q:Plan) (k:Nat) (r:Plan)
 |four (i:Nat) (p:Plan) (j:Nat) (q:Plan) (k:Nat) (r:Plan) (l:Nat) (s:Plan)
 |five (i:Nat) (p:Plan) (j:Nat) (q:Plan) (k:Nat) (r:Plan) (l:Nat) (s:Plan) (n:Nat) (t:Plan)
def vcP1 (ops:Array Oper) (kd:Nat→Nat) (i:Nat) (σ:St) (K:St→Prop):Prop:=match ops[i]? with
 |some o=>vcOp E DB N ops (kd i) o σ fun σ'=>thenS σ' K
 |none=>False
def vcP (ops:Array Oper) (kd:Nat→Nat):Plan→Nat→Array Bool→St→(St→Prop)→Prop
 |.done,_,listed,σ,K=>(Region.ready .any ops listed).isEmpty=true∧thenS { σ with gen:=[],kn:=[] } K
 |_,0,_,_,_=>False
 |.take i p,f+1,listed,σ,K=>takeOK ops kd listed i=true∧vcP1 E DB N ops kd i σ fun σ'=>vcP ops kd p f (listed.setIfInBounds i true) σ' K
 |.one i p,f+1,listed,σ,K=>(Region.ready .any ops listed==[i])=true∧vcP1 E DB N ops kd i σ fun σ'=>vcP ops kd p f (listed.setIfInBounds i true) σ' K
 |.two i p j q,f+1,listed,σ,K=>(Region.ready .any ops listed==[i,j])=true∧(vcP1 E DB N ops kd i σ fun σ'=>vcP ops kd p f (listed.setIfInBounds i true) σ' K)∧vcP1 E DB N ops kd j σ fun σ'=>vcP ops kd q f (listed.setIfInBounds j true) σ' K
 |.three i p j q k r,f+1,listed,σ,K=>(Region.ready .any ops listed==[i,j,k])=true∧(vcP1 E DB N ops kd i σ fun σ'=>vcP ops kd p f (listed.setIfInBounds i true) σ' K)∧(vcP1 E DB N ops kd j σ fun σ'=>vcP ops kd q f (listed.setIfInBounds j true) σ' K) ∧
     vcP1 E DB N ops kd k σ fun σ'=>vcP ops kd r f (listed.setIfInBounds k true) σ' K
 |.four i p j q k r l t,f+1,listed,σ,K=>(Region.ready .any ops listed==[i,j,k,l])=true∧(vcP1 E DB N ops kd i σ fun σ'=>vcP ops kd p f (listed.setIfInBounds i true) σ' K)∧(vcP1 E DB N ops kd j σ fun σ'=>vcP ops kd q f (listed.setIfInBounds j true) σ' K) ∧
     (vcP1 E DB N ops kd k σ fun σ'=>vcP ops kd r f (listed.setIfInBounds k true) σ' K)∧vcP1 E DB N ops kd l σ fun σ'=>vcP ops kd t f (listed.setIfInBounds l true) σ' K
 |.five i p j q k r l t n u,f+1,listed,σ,K=>(Region.ready .any ops listed==[i,j,k,l,n])=true∧(vcP1 E DB N ops kd i σ fun σ'=>vcP ops kd p f (listed.setIfInBounds i true) σ' K)∧(vcP1 E DB N ops kd j σ fun σ'=>vcP ops kd q f (listed.setIfInBounds j true) σ' K) ∧
     (vcP1 E DB N ops kd k σ fun σ'=>vcP ops kd r f (listed.setIfInBounds k true) σ' K)∧(vcP1 E DB N ops kd l σ fun σ'=>vcP ops kd t f (listed.setIfInBounds l true) σ' K)∧vcP1 E DB N ops kd n σ fun σ'=>vcP ops kd u f (listed.setIfInBounds n true) σ' K
def zle (z z':Option Bool):Prop:=z'=none∨z=z'
def zlp (z z':Option Bool) (n:Nat):Prop:=z'=none∨z=z'∨(z'=some false∧0<n)
def eqL (c d:Nat) (l:List (TabT c)) (l':List (TabT d)):Prop:=match Nat.decEq c d with
 |isTrue h=>(h▸(fun m=>l=m:List (TabT c)→Prop):List (TabT d)→Prop) l'
 |isFalse _=>False
def eqM (k v k' v':Nat) (l:List (TabT k×TabT v)) (l':List (TabT k'×TabT v')):Prop:=match Nat.decEq k k',Nat.decEq v v' with
 |isTrue h,isTrue g=>(h▸g▸(fun m=>l=m:List (TabT k×TabT v)→Prop):List (TabT k'×TabT v')→Prop) l'
 |_,_=>False
mutual
def leS (s t:SV):Prop:=match s with
 |.i a=>match t with
   |.i b=>a=b
   |.un=>True
   |_=>False
 |.b a=>match t with
   |.b b=>a=b
   |.un=>True
   |_=>False
 |.w8 a=>match t with
   |.w8 b=>a=b
   |.un=>True
   |_=>False
 |.w32 a=>match t with
   |.w32 b=>a=b
   |.un=>True
   |_=>False
 |.w64 a=>match t with
   |.w64 b=>a=b
   |.un=>True
   |_=>False
 |.str a=>match t with
   |.str b=>a=b
   |.un=>True
   |_=>False
 |.lst z c l=>match t with
   |.lst z' c' l'=>zlp z z' l.length∧eqL c c' l l'
   |.un=>True
   |_=>False
 |.tup a=>match t with
   |.tup b=>leL a b
   |.un=>True
   |_=>False
 |.agg a=>match t with
   |.agg b=>leL a b
   |.un=>True
   |_=>False
 |.v x=>match t with
   |.un=>True
   |.lst z' _ l'=>match x with
     |.slice none 0 0=>zle (some true) z'∧l'=[]
     |_=>False
   |t=>.v x=t
 |s=>match t with
   |.un=>True
   |t=>s=t
def leL:List SV→List SV→Prop
 |[],q=>match q with
   |[]=>True
   |_::_=>False
 |s::r,q=>match q with
   |t::q=>leS s t∧leL r q
   |[]=>False
end
def leH:HB→HB→Prop
 |.row T a,.row T' b=>T=T'∧leL a b
 |.fro T a,.fro T' b=>T=T'∧leL a b
 |.arr T z c l,.arr T' z' c' l'=>T=T'∧zle z z'∧eqL c c' l l'
 |.far z c l,.far z' c' l'=>zle z z'∧eqL c c' l l'
 |.vec T N c l,.vec T' N' c' l'=>T=T'∧N=N'∧eqL c c' l l'
 |.mp k v l,.mp k' v' l'=>eqM k v k' v' l l'
 |s,t=>s=t
theorem eqL_rf (c:Nat) (l:List (TabT c)):eqL c c l l:=by
 unfold eqL;split
 ·rfl
 ·rename_i h _;exact h rfl
theorem eqM_rf (k v:Nat) (l:List (TabT k×TabT v)):eqM k v k v l l:=by
 unfold eqM;split
 ·rfl
 ·rename_i h;rcases hk:Nat.decEq k k with a|a
  ·exact a rfl
  ·rcases hv:Nat.decEq v v with b|b
   ·exact b rfl
   ·exact h _ _ hk hv
mutual
theorem leS_rf (s:SV):leS s s:=by
 unfold leS
 match s with
 |.lst z c l=>exact⟨Or.inr (Or.inl rfl),eqL_rf c l⟩
 |.tup a=>exact leL_rf a
 |.agg a=>exact leL_rf a
 |.i _ | .b _ | .w8 _ | .w32 _ | .w64 _ | .str _ | .v _ | .loc _ _ | .osl _ | .nso _ | .noe _ _ | .sub _ _ _ _ | .oel _ _ _ _ | .vel _ _ _ _ _ | .vsl _ _ _ _ _ | .av _ _ _ | .fp _ _ | .fvec _ _ _ | .fsl _ | .clo _ _ _ | .ifc _ _ | .un=>first|exact trivial|exact rfl
theorem leL_rf (a:List SV):leL a a:=by
 unfold leL
 match a with
 |[]=>exact trivial
 |s::r=>exact⟨leS_rf s,leL_rf r⟩
end
theorem leH_rf {h h':HB} (e:h=h'):leH h h':=by
 subst e
 cases h with
 |row T a=>exact⟨rfl,leL_rf a⟩
 |fro T a=>exact⟨rfl,leL_rf a⟩
 |arr T z c l=>exact⟨rfl,Or.inr rfl,eqL_rf c l⟩
 |far z c l=>exact⟨Or.inr rfl,eqL_rf c l⟩
 |vec T N c l=>exact⟨rfl,rfl,eqL_rf c l⟩
 |mp k v l=>exact eqM_rf k v l
 |ext o A=>exact rfl
 |nst=>exact rfl
 |nfr=>exact rfl
 |gone=>exact rfl
def keepS (σ:St):List Nat→List (Nat×SV)
 |[]=>[]
 |t::r=>match σ.slot [] t with
   |some s=>(t,s)::keepS σ r
   |none=>keepS σ r
def hd (σ:St) (ks:List Nat) (q:Nat) (dr:List Nat) (U:List (Nat×SV)) (V:List (Nat×HB)):St :=
 { env:=U++keepS σ ks,gen:=[],kn:=[],heap:=V++(gones dr++σ.heap),nb:=σ.nb+q,n0:=σ.n0 }
def slotsLe (σ:St) (n z:Nat) (r:List Nat):List (Nat×SV)→Prop
 |[]=>True
 |(t,s)::l=>match σ.slot [] t with
   |some s'=>leS s' (ren n z r s)∧slotsLe σ n z r l
   |none=>False
def heapLe (σ:St) (n z:Nat) (r:List Nat):List (Nat×HB)→Prop
 |[]=>True
 |(i,h)::l=>match lk σ.heap (rn n z r i)with
   |some h'=>leH h' (renB n z r h)∧heapLe σ n z r l
   |none=>False
def mapRn (n z:Nat) (r:List Nat):List (Nat×HB)→List Nat
 |[]=>[]
 |(i,_)::l=>rn n z r i::mapRn n z r l
def meets (n:Nat) (r:List Nat) (σ τ:St):Prop :=
 (allLt σ.nb r&&(Nat.beq (n+len r) τ.nb&&(Nat.ble n σ.nb&&(Nat.ble τ.n0 n&&(Nat.beq σ.n0 τ.n0&&(allLt τ.nb (keysH τ.heap)&&nodupN (mapRn n σ.nb r (live [] τ.heap))))))))=true ∧
 slotsLe σ n σ.nb r τ.env∧heapLe σ n σ.nb r (live [] τ.heap)
def nameIn (j:Nat):SV→SV→Option Nat
 |.osl k,.osl i=>match Nat.beq i j with
   |true=>some k
   |false=>none
 |.loc k _,.loc i _=>match Nat.beq i j with
   |true=>some k
   |false=>none
 |.nso k,.nso i=>match Nat.beq i j with
   |true=>some k
   |false=>none
 |.sub k _ _ _,.sub i _ _ _=>match Nat.beq i j with
   |true=>some k
   |false=>none
 |_,_=>none
def nameInL (j:Nat):List SV→List SV→Option Nat
 |s::r,t::q=>match nameIn j s t with
   |some k=>some k
   |none=>nameInL j r q
 |_,_=>none
def nameOf (σ:St) (j:Nat):List (Nat×SV)→Option Nat
 |[]=>none
 |(t,s)::r=>match σ.slot [] t with
   |some s'=>match nameIn j s' s with
     |some k=>some k
     |none=>nameOf σ j r
   |none=>nameOf σ j r
def nameOfH (σ:St) (j:Nat) (f:Nat→Nat):List (Nat×HB)→Option Nat
 |[]=>none
 |(i,.row _ cs)::r=>match lk σ.heap (f i)with
   |some (.row _ cs')=>match nameInL j cs' cs with
     |some k=>some k
     |none=>nameOfH σ j f r
   |_=>nameOfH σ j f r
 |_::r=>nameOfH σ j f r
def inferR (σ:St) (n:Nat) (U:List (Nat×SV)) (V:List (Nat×HB)):Nat→Nat→List Nat→List Nat
 |_,0,acc=>acc
 |j,k+1,acc=>match nameOf σ (n+j) U with
   |some i=>inferR σ n U V (j+1) k (acc++[i])
   |none=>match nameOfH σ (n+j) (rn n σ.nb acc) V with
     |some i=>inferR σ n U V (j+1) k (acc++[i])
     |none=>inferR σ n U V (j+1) k (acc++[σ.nb])
def putC (σ:St) (i o:Nat) (s:SV):St:=match lk σ.heap i with
 |some (.row T cs)=>setH σ i (.row T (over cs o [s]))
 |_=>σ
def nilC (σ:St) (i o:Nat) (e:TypeId) (c:Nat):St:=match lk σ.heap i with
 |some (.row T cs)=>match nth cs o with
   |some (.v (.slice none 0 0))=>match Nat.beq e 0 with
     |true=>setH σ i (.row T (over cs o [.lst (some true) c []]))
     |false=>putC (newN σ (.arr e none c [])) i o (.osl σ.nb)
   |some (.sub j c0 lo hi)=>match subz σ (.sub j c0 lo hi)with
     |(σ1,s1)=>putC σ1 i o s1
   |_=>σ
 |_=>σ
def nilz:List (Nat×TypeId×Nat)→St→St
 |[],σ=>σ
 |(t,e,c)::r,σ=>match Nat.ble 100000 t with
   |true=>match σ.slot [] (t % 100000)with
     |some (.loc i _)=>nilz r (nilC σ i (t / 100000-1) e c)
     |_=>nilz r σ
   |false=>match σ.slot [] t,fresh σ (some t)with
     |some (.v (.slice none 0 0)),true=>nilz r (setE (newN σ (.arr e none c [])) (some t) (.osl σ.nb))
     |some (.sub j c0 lo hi),true=>match subz σ (.sub j c0 lo hi)with
       |(σ1,s1)=>nilz r (setE σ1 (some t) s1)
     |some (.loc i _),_=>nilz r (frz σ [i])
     |some (.nso i),_=>match Nat.beq e 0,fresh σ (some t)with
       |true,true=>nilz r (setE (frz (retN σ i) [i]) (some t) (vw (frz (retN σ i) [i]) (.nso i)))
       |_,_=>nilz r (retN σ i)
     |_,_=>nilz r σ
def fNs:List Nat→(List Nat→Prop)→Prop
 |[],k=>k []
 |i::r,k=>fN i fun i=>fNs r fun r=>k (i::r)
theorem fNs_eq:∀ (l:List Nat) (k:List Nat→Prop),fNs l k=k l
 |[],_=>rfl
 |i::r,k=>by rw [fNs,fN_eq,fNs_eq r]
def meetsA (n q:Nat) (nl:List (Nat×TypeId×Nat)) (U:List (Nat×SV)) (V:List (Nat×HB)) (σ τ:St):Prop :=
 deepS (nilz nl σ) fun σ=>fNs (inferR σ n U V 0 q []) fun r=>deepS τ fun τ=>meets n r σ τ
theorem meetsA_iff {n q:Nat} {nl:List (Nat×TypeId×Nat)} {U:List (Nat×SV)} {V:List (Nat×HB)} {σ τ:St}:meetsA n q nl U V σ τ↔meets n (inferR (nilz nl σ) n U V 0 q []) (nilz nl σ) τ:=by
 unfold meetsA;rw [deepS_eq,fNs_eq,deepS_eq]
def loopS (vcc:St→(Exit→St→Prop)→Prop) (σ:St) (K:Exit→St→Prop):Prop :=
 ∃ (S:Type) (q:Nat) (nl:List (Nat×TypeId×Nat)) (ks:List Nat) (U:S→List (Nat×SV)) (V:S→List (Nat×HB)) (dr:List Nat) (F:S→Prop) (μ:S→Nat) (s0:S),
   F s0∧meetsA σ.nb q nl (U s0) (V s0) σ (hd σ ks q dr (U s0) (V s0))∧∀ s,F s→deepS (hd σ ks q dr (U s) (V s)) fun σ1=>vcc σ1 fun e σ'=>match e with
     |.normal=>∃ s',F s'∧μ s'<μ s∧meetsA σ.nb q nl (U s') (V s') σ' (hd σ ks q dr (U s') (V s'))
     |e=>K e σ'
def unr (vcc:St→(Exit→St→Prop)→Prop):Nat→St→(Exit→St→Prop)→Prop
 |0,_,_=>False
 |n+1,σ,K=>vcc σ fun e σ'=>match e with
   |.normal=>unr vcc n σ' K
   |e=>K e σ'
def joinS (vca vcb:St→(Exit→St→Prop)→Prop) (σ:St) (K:Exit→St→Prop):Prop :=
 ∃ (S:Type) (q:Nat) (nl:List (Nat×TypeId×Nat)) (ks:List Nat) (U:S→List (Nat×SV)) (V:S→List (Nat×HB)) (dr:List Nat) (F:S→Prop),
   (vca σ fun e σ'=>match e with
     |.normal=>∃ s,F s∧meetsA σ.nb q nl (U s) (V s) σ' (hd σ ks q dr (U s) (V s))
     |e=>K e σ')∧∀ s,F s→deepS (hd σ ks q dr (U s) (V s)) fun σ1=>vcb σ1 K
def castM (a b c d:Nat) (l:List (TabT a×TabT b)):Option (List (TabT c×TabT d)):=match Nat.decEq a c,Nat.decEq b d with
 |isTrue h,isTrue g=>(h▸g▸(some l:Option (List (TabT a×TabT b))):Option (List (TabT c×TabT d)))
 |_,_=>none
mutual
def ShS:SV→Type
 |.i _=>Int
 |.b _=>Bool
 |.w8 _=>UInt8
 |.w32 _=>UInt32
 |.w64 _=>UInt64
 |.str _=>ByteArray
 |.av c _ _=>List (TabT c)
 |.lst _ c _=>List (TabT c)
 |.fvec c _ _=>List (TabT c)
 |.fsl _=>Unit
 |.agg l=>ShL l
 |.tup l=>ShL l
 |.v _=>Unit
 |.loc ..=>Unit
 |.osl _=>Unit
 |.nso _=>Unit
 |.noe ..=>Unit
 |.sub _ _ _ _=>Int×Int
 |.oel ..=>Unit
 |.vel ..=>Unit
 |.vsl ..=>Unit
 |.fp ..=>Unit
 |.clo ..=>Unit
 |.ifc ..=>Unit
 |.un=>Unit
def ShL:List SV→Type
 |[]=>Unit
 |s::r=>ShS s×ShL r
end
def isE {α:Type}:List α→Bool
 |[]=>true
 |_::_=>false
def zfi {α:Type} (z:Option Bool) (l:List α):Option Bool:=match z with
 |none=>none
 |some _=>some (isE l)
mutual
def nzS:SV→SV
 |.lst _ c l=>.lst none c l
 |.agg l=>.agg (nzL l)
 |.tup l=>.tup (nzL l)
 |s=>s
def nzL:List SV→List SV
 |[]=>[]
 |s::r=>nzS s::nzL r
end
mutual
def fiS:(s:SV)→ShS s→SV
 |.i _,n=>.i n
 |.b _,n=>.b n
 |.w8 _,n=>.w8 n
 |.w32 _,n=>.w32 n
 |.w64 _,n=>.w64 n
 |.str _,n=>.str n
 |.av c N _,l=>.av c N l
 |.lst z c _,l=>.lst (zfi z l) c l
 |.fvec c N _,l=>.fvec c N l
 |.fsl cs,_=>.fsl cs
 |.agg l,x=>.agg (fiL l x)
 |.tup l,x=>.tup (fiL l x)
 |.v x,_=>.v x
 |.loc i o,_=>.loc i o
 |.osl i,_=>.osl i
 |.nso i,_=>.nso i
 |.noe i k,_=>.noe i k
 |.sub i c _ _,x=>.sub i c x.1 x.2
 |.oel i c k o,_=>.oel i c k o
 |.vel i c N k o,_=>.vel i c N k o
 |.vsl i c N lo hi,_=>.vsl i c N lo hi
 |.fp cs o,_=>.fp cs o
 |.clo f a b,_=>.clo f a b
 |.ifc t x,_=>.ifc t x
 |.un,_=>.un
def fiL:(l:List SV)→ShL l→List SV
 |[],_=>[]
 |s::r,x=>fiS s x.1::fiL r x.2
end
def ShB:HB→Type
 |.row _ cs=>ShL cs
 |.arr _ _ c _=>List (TabT c)
 |.vec _ _ c _=>List (TabT c)
 |.mp k v _=>List (TabT k×TabT v)
 |.nst _ _ c _ _ _=>List (TabT c)
 |.nfr ..=>Unit
 |.fro ..=>Unit
 |.far ..=>Unit
 |.ext ..=>Unit
 |.gone=>Unit
def fiB:(h:HB)→ShB h→HB
 |.row T cs,x=>.row T (fiL cs x)
 |.arr T _ c _,l=>.arr T none c l
 |.vec T N c _,l=>.vec T N c l
 |.mp k v _,l=>.mp k v l
 |.nst T T' c' c _ _,l=>.nst T T' c' c l none
 |.nfr z c l,_=>.nfr z c l
 |.fro T cs,_=>.fro T cs
 |.far z c l,_=>.far z c l
 |.ext o A,_=>.ext o A
 |.gone,_=>.gone
def ShU:List (Nat×SV)→Type
 |[]=>Unit
 |p::r=>ShS p.2×ShU r
def fiU:(l:List (Nat×SV))→ShU l→List (Nat×SV)
 |[],_=>[]
 |p::r,x=>match (x:ShS p.2×ShU r)with
   |(a,b)=>(p.1,fiS p.2 a)::fiU r b
def ShV:List (Nat×HB)→Type
 |[]=>Unit
 |p::r=>ShB p.2×ShV r
def fiV:(l:List (Nat×HB))→ShV l→List (Nat×HB)
 |[],_=>[]
 |p::r,x=>match (x:ShB p.2×ShV r)with
   |(a,b)=>(p.1,fiB p.2 a)::fiV r b
def patS (σ:St):Nat→SV→Nat→SV×(List (Nat×HB)×Nat)
 |0,s,n=>(s,([],n))
 |f+1,s,n=>match s with
   |.osl j=>match lk σ.heap j with
     |some (.arr T _ c l)=>(.osl n,([(n,.arr T none c l)],n+1))
     |_=>(.osl j,([],n))
   |.agg l=>match patL (patS σ f) l n with
     |(l',r)=>(.agg l',r)
   |.tup l=>match patL (patS σ f) l n with
     |(l',r)=>(.tup l',r)
   |s=>(s,([],n))
where
 patL (g:SV→Nat→SV×(List (Nat×HB)×Nat)):List SV→Nat→List SV×(List (Nat×HB)×Nat)
   |[],n=>([],([],n))
   |s::r,n=>match g s n with
     |(s',(h,n'))=>match patL g r n' with
       |(r',(h',n''))=>(s'::r',(h++h',n''))
def patU (σ:St) (ov:List (Nat×SV)):List Nat→Nat→List (Nat×SV)×(List (Nat×HB)×Nat)
 |[],n=>([],([],n))
 |t::r,n=>match (match lk ov (t+1000000)with|some s=>some s|none=>match (match lk ov t with|some s=>some s|none=>σ.slot [] t)with|some s=>some (nzS s)|none=>none)with
   |some s=>match patS σ 4 s n with
     |(s',(h,n'))=>match patU σ ov r n' with
       |(r',(h',n''))=>((t,s')::r',(h++h',n''))
   |none=>patU σ ov r n
def patV (σ:St):List Nat→Nat→List (Nat×HB)×Nat
 |[],n=>([],n)
 |i::r,n=>match lk σ.heap i with
   |some (.row T cs)=>match patS.patL (patS σ 4) (nzL cs) n with
     |(cs',(h,n'))=>match patV σ r n' with
       |(r',n'')=>((i,.row T cs')::(h++r'),n'')
   |some h=>match patV σ r n with
     |(r',n'')=>((i,h)::r',n'')
   |none=>patV σ r n
mutual
def puS:(s:SV)→SV→(ShS s→Prop)→Prop
 |.i _,s,k=>match s with
   |.i n=>k n
   |_=>False
 |.b _,s,k=>match s with
   |.b n=>k n
   |_=>False
 |.w8 _,s,k=>match s with
   |.w8 n=>k n
   |_=>False
 |.w32 _,s,k=>match s with
   |.w32 n=>k n
   |_=>False
 |.w64 _,s,k=>match s with
   |.w64 n=>k n
   |_=>False
 |.str _,s,k=>match s with
   |.str n=>k n
   |_=>False
 |.av c _ _,s,k=>match s with
   |.av c' _ l=>match castL c' c l with
     |some l=>k l
     |none=>False
   |_=>False
 |.lst _ c _,s,k=>match asL c s with
   |some l=>k l
   |none=>False
 |.fvec c _ _,s,k=>match s with
   |.fvec c' _ l=>match castL c' c l with
     |some l=>k l
     |none=>False
   |_=>False
 |.agg l,s,k=>match s with
   |.agg l'=>puL l l' k
   |_=>False
 |.tup l,s,k=>match s with
   |.tup l'=>puL l l' k
   |_=>False
 |.v _,_,k=>k ()
 |.loc ..,_,k=>k ()
 |.osl _,_,k=>k ()
 |.nso _,_,k=>k ()
 |.noe ..,_,k=>k ()
 |.sub _ _ _ _,s,k=>match s with
   |.sub _ _ lo hi=>k (lo,hi)
   |_=>False
 |.oel ..,_,k=>k ()
 |.vel ..,_,k=>k ()
 |.vsl ..,_,k=>k ()
 |.fp ..,_,k=>k ()
 |.fsl _,_,k=>k ()
 |.clo ..,_,k=>k ()
 |.ifc ..,_,k=>k ()
 |.un,_,k=>k ()
def puL:(l:List SV)→List SV→(ShL l→Prop)→Prop
 |[],_,k=>k ()
 |s::r,l,k=>match l with
   |[]=>False
   |t::q=>puS s t fun x=>puL r q fun y=>k (x,y)
end
def puB:(h:HB)→HB→(ShB h→Prop)→Prop
 |.row _ cs,h,k=>match h with
   |.row _ cs'=>puL cs cs' k
   |_=>False
 |.arr _ _ c _,h,k=>match h with
   |.arr _ _ c' l=>match castL c' c l with
     |some l=>k l
     |none=>False
   |_=>False
 |.vec _ _ c _,h,k=>match h with
   |.vec _ _ c' l=>match castL c' c l with
     |some l=>k l
     |none=>False
   |_=>False
 |.mp a b _,h,k=>match h with
   |.mp a' b' l=>match castM a' b' a b l with
     |some l=>k l
     |none=>False
   |_=>False
 |.nst _ _ c _ _ _,h,k=>match h with
   |.nst _ _ c' _ l none=>match castL c' c l with
     |some l=>k l
     |none=>False
   |_=>False
 |.nfr ..,_,k=>k ()
 |.fro ..,_,k=>k ()
 |.far ..,_,k=>k ()
 |.ext ..,_,k=>k ()
 |.gone,_,k=>k ()
def puU (σ:St):(l:List (Nat×SV))→(ShU l→Prop)→Prop
 |[],k=>k ()
 |p::r,k=>match σ.slot [] p.1 with
   |some s=>puS p.2 s fun x=>puU σ r fun y=>k (x,y)
   |none=>False
def puV (σ:St) (f:Nat→Nat):(l:List (Nat×HB))→(ShV l→Prop)→Prop
 |[],k=>k ()
 |p::r,k=>match lk σ.heap (f p.1)with
   |some h=>puB p.2 h fun x=>puV σ f r fun y=>k (x,y)
   |none=>False
structure Rnd (a b c:Prop):Prop where
 a:a
 b:b
 c:c
structure Ini (a b c:Prop):Prop where
 a:a
 b:b
 c:c
structure Met (a b:Prop):Prop where
 a:a
 b:b
section
variable (vcc vcd:St→(Exit→St→Prop)→Prop) (nl:List (Nat×TypeId×Nat)) (us:List Nat) (ov:List (Nat×SV)) (hs ks dr:List Nat)
def withP (σ:St) (k:List (Nat×SV)→List (Nat×HB)→Nat→Prop):Prop:=match patU (nilz nl σ) ov us σ.nb with
 |(pu,(ph,n))=>match patV (nilz nl σ) hs n with
   |(pv,n')=>fE pu fun pu=>fH (ph++pv) fun pv=>fN (n'-σ.nb) fun q=>k pu pv q
def withR (σ σ':St) (pu:List (Nat×SV)) (pv:List (Nat×HB)) (q:Nat) (k:ShU pu→ShV pv→Prop):Prop :=
 deepS (nilz nl σ') fun σ1=>fNs (inferR σ1 σ.nb pu pv 0 q []) fun r=>puU σ1 pu fun x=>puV σ1 (rn σ.nb σ1.nb r) pv fun y=>k x y
def loopG (σ:St) (K:Exit→St→Prop):Prop:=withP nl us ov hs σ fun pu pv q =>
 ∃ (F:ShU pu→ShV pv→Prop) (μ:ShU pu→ShV pv→Nat),withR nl σ σ pu pv q fun x0 y0=>Ini (F x0 y0) (meetsA σ.nb q nl (fiU pu x0) (fiV pv y0) σ (hd σ ks q dr (fiU pu x0) (fiV pv y0)))
   (∀ x y,F x y→deepS (hd σ ks q dr (fiU pu x) (fiV pv y)) fun σ1=>vcc σ1 fun e σ'=>match e with
     |.normal=>withR nl σ σ' pu pv q fun x' y'=>Rnd (F x' y') (μ x' y'<μ x y) (meetsA σ.nb q nl (fiU pu x') (fiV pv y') σ' (hd σ ks q dr (fiU pu x') (fiV pv y')))
     |e=>K e σ')
def joinG (σ:St) (K:Exit→St→Prop):Prop:=withP nl us ov hs σ fun pu pv q =>
 ∃ (F:ShU pu→ShV pv→Prop),(vcc σ fun e σ'=>match e with
     |.normal=>withR nl σ σ' pu pv q fun x y=>Met (F x y) (meetsA σ.nb q nl (fiU pu x) (fiV pv y) σ' (hd σ ks q dr (fiU pu x) (fiV pv y)))
     |e=>K e σ')∧∀ x y,F x y→deepS (hd σ ks q dr (fiU pu x) (fiV pv y)) fun σ1=>vcd σ1 K
end
inductive PJ
 |jmp (k:Nat)
 |fin
 |take (i:Nat) (p:PJ)
structure Lab where
 f:Nat
 l:Array Bool
 n:Nat
 st:St
 al:List (Nat×PJ)
def Lab.ok (L:Lab):Bool:=match L.st.gen,L.st.kn with
 |[],[]=>true
 |_,_=>false
section
variable (E:En) (DB:Db E) (N:Nat)
def vcJ (ops:Array Oper) (kd:Nat→Nat) (labs:List Lab):PJ→Nat→Array Bool→St→(St→Prop)→Prop
 |.jmp k,f,listed,σ,_=>match nth labs k with
   |some L=>(Nat.beq f (L.f+1)&&(listed==L.l&&L.ok))=true∧meetsA L.n (L.st.nb-L.n) [] L.st.env L.st.heap σ L.st
   |none=>False
 |.fin,_,listed,σ,K=>(Region.ready .any ops listed).isEmpty=true∧thenS { σ with gen:=[],kn:=[] } K
 |.take _ _,0,_,_,_=>False
 |.take i p,f+1,listed,σ,K=>takeOK ops kd listed i=true∧vcP1 E DB N ops kd i σ fun σ'=>vcJ ops kd labs p f (listed.setIfInBounds i true) σ' K
def vcAl (ops:Array Oper) (kd:Nat→Nat) (labs:List Lab) (f:Nat) (listed:Array Bool) (σ:St) (K:St→Prop):List (Nat×PJ)→Prop
 |[]=>True
 |(i,p)::r=>vcP1 E DB N ops kd i σ (fun σ'=>vcJ E DB N ops kd labs p f (listed.setIfInBounds i true) σ' K)∧vcAl ops kd labs f listed σ K r
def fstL:List (Nat×PJ)→List Nat
 |[]=>[]
 |(i,_)::r=>i::fstL r
def vcLs (ops:Array Oper) (kd:Nat→Nat) (K:St→Prop):List Lab→Prop
 |[]=>True
 |L::r=>(Region.ready .any ops L.l==fstL L.al&&!(fstL L.al).isEmpty)=true∧vcAl E DB N ops kd r L.f L.l L.st K L.al∧vcLs ops kd K r
end
def mkN:List Oper→Nat
 |[]=>0
 |⟨_,.makeSlice ..,_,_,_,_⟩::r=>mkN r+1
 |_::r=>mkN r
def hasA:List Oper→Bool
 |[]=>false
 |⟨_,.alloc ..,_,_,_,_⟩::_=>true
 |_::r=>hasA r
def hasS:List Oper→Bool
 |[]=>false
 |⟨_,.assign ..,_,_,_,_⟩::_=>true
 |_::r=>hasS r
def ends (id:Option Nat):Code→Nat
 |.skip=>match id with
   |none=>1
   |some _=>0
 |.region _ ops d=>match id with
   |none=>match d&&(Nat.ble 2 (mkN ops.toList)||(hasA ops.toList&&hasS ops.toList))with
     |true=>2
     |false=>1
   |some _=>0
 |.seq a b=>match ends none a with
   |0=>ends id a
   |n=>match id with
     |none=>n*ends none b
     |some i=>ends (some i) a+ends (some i) b
 |.cond _ a b=>ends id a+ends id b
 |.block i c=>match id with
   |none=>ends none c+ends (some i) c
   |some j=>ends (some j) c
 |.loop c=>match id with
   |none=>0
   |some j=>ends (some j) c
 |.exit i=>match id with
   |none=>0
   |some j=>match Nat.beq i j with
     |true=>1
     |false=>0
 |.scope c=>ends id c
 |_=>0
def vc:Code→St→(Exit→St→Prop)→Prop
 |.skip,σ,K=>K .normal σ
 |.ret,σ,K=>K .ret σ
 |.exit i,σ,K=>K (.exit i) σ
 |.region _ ops false,σ,K=>vcOps E DB N ops (fun _=>3) (upFrom 0 ops.size) σ fun σ'=>K .normal σ'
 |.region _ ops true,σ,K=>(∃ kd l,okX .any ops (fun i=>List.getD kd i 3) l=true∧vcOps E DB N ops (fun i=>List.getD kd i 3) l σ fun σ'=>K .normal σ')∨(∃ kd p,vcP E DB N ops (fun i=>List.getD kd i 3) p ops.size (Array.replicate ops.size false) σ fun σ'=>K .normal σ') ∨
   ∃ kd labs p,vcJ E DB N ops (fun i=>List.getD kd i 3) labs p ops.size (Array.replicate ops.size false) σ (fun σ'=>K .normal σ')∧vcLs E DB N ops (fun i=>List.getD kd i 3) (fun σ'=>K .normal σ') labs
 |.seq a b,σ,K=>match Nat.ble (ends none a) 1 with
   |true=>vc a σ fun e σ'=>match e with
     |.normal=>vc b σ' K
     |e=>K e σ'
   |false=>(vc a σ fun e σ'=>match e with
     |.normal=>vc b σ' K
     |e=>K e σ')∨joinS (vc a) (vc b) σ K∨∃ nl us ov hs ks dr,joinG (vc a) (vc b) nl us ov hs ks dr σ K
 |.cond c a b,σ,K=>match σ.ev E [] c with
   |some (.b q)=>(q=true→vc a σ K)∧(q=false→vc b σ K)
   |_=>False
 |.block i c,σ,K=>vc c σ fun e σ'=>match e with
   |.exit j=>match Nat.beq j i with
     |true=>K .normal σ'
     |false=>K (.exit j) σ'
   |e=>K e σ'
 |.loop c,σ,K=>loopS (vc c) σ K∨(∃ n,unr (vc c) n σ K)∨∃ nl us ov hs ks dr,loopG (vc c) nl us ov hs ks dr σ K
 |_,_,_=>False
end
end Go.SX
