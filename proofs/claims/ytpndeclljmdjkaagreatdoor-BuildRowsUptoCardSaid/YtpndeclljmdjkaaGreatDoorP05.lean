/- A part of the proof (texts SI, SJ). -/
import Derived.Test.YtpndeclljmdjkaaGreatDoorP04
set_option linter.all false
set_option maxRecDepth 100000
namespace Go.SX
open List renaming getElem?_eq_getElem -> bZ
open Go.XK Go.RowKit
structure Ob (p:Prop):Prop where
 ok:p
def setH (σ:St) (i:Nat) (hb:HB):St:={ σ with heap:=(i,hb)::σ.heap }
def j3 (σ:St) (hb:HB):St:={ σ with heap:=(σ.nb,hb)::σ.heap,nb:=σ.nb+1 }
abbrev SV.und:SV:=.v undef
def fO (n:Nat) (k:Nat->Prop):Prop:=match n with
 |0=>k 0
 |n+1=>k (n+1)
def fM (n:Nat) (k:Nat->Prop):Prop:=match n with
 |0=>k 0
 |1=>k 1
 |2=>k 2
 |3=>k 3
 |4=>k 4
 |5=>k 5
 |6=>k 6
 |7=>k 7
 |8=>k 8
 |9=>k 9
 |10=>k 10
 |11=>k 11
 |12=>k 12
 |13=>k 13
 |14=>k 14
 |15=>k 15
 |16=>k 16
 |17=>k 17
 |18=>k 18
 |19=>k 19
 |20=>k 20
 |21=>k 21
 |22=>k 22
 |23=>k 23
 |n+24=>k (n+24)
def fN (n:Nat) (k:Nat->Prop):Prop:=match n with
 |0=>k 0
 |1=>k 1
 |2=>k 2
 |3=>k 3
 |4=>k 4
 |5=>k 5
 |6=>k 6
 |7=>k 7
 |8=>k 8
 |9=>k 9
 |10=>k 10
 |11=>k 11
 |12=>k 12
 |13=>k 13
 |14=>k 14
 |15=>k 15
 |16=>k 16
 |17=>k 17
 |18=>k 18
 |19=>k 19
 |20=>k 20
 |21=>k 21
 |22=>k 22
 |23=>k 23
 |n+24=>fM n fun m=>k (m+24)
mutual
def fS:SV->(SV->Prop)->Prop
 |.v x,k=>k (.v x)
 |.i n,k=>k (.i n)
 |.b n,k=>k (.b n)
 |.w8 n,k=>k (.w8 n)
 |.w32 n,k=>k (.w32 n)
 |.jg n,k=>k (.jg n)
 |.str n,k=>k (.str n)
 |.loc i o,k=>fN i fun i=>fO o fun o=>k (.loc i o)
 |.bT i,k=>fN i fun i=>k (.bT i)
 |.wN i,k=>fN i fun i=>k (.wN i)
 |.DN i n,k=>fN i fun i=>k (.DN i n)
 |.sub i c lo hi,k=>fN i fun i=>fO c fun c=>k (.sub i c lo hi)
 |.Ah i c n o,k=>fN i fun i=>fO c fun c=>fO o fun o=>k (.Ah i c n o)
 |.Ag i c N n o,k=>fN i fun i=>fO c fun c=>fO N fun N=>fO o fun o=>k (.Ag i c N n o)
 |.DF i c N lo hi,k=>fN i fun i=>fO c fun c=>fO N fun N=>k (.DF i c N lo hi)
 |.av c N l,k=>k (.av c N l)
 |.aW z c l,k=>k (.aW z c l)
 |.fp cs o,k=>WQ cs fun cs=>fO o fun o=>k (.fp cs o)
 |.lH c N l,k=>k (.lH c N l)
 |.yN cs,k=>WQ cs fun cs=>k (.yN cs)
 |.agg l,k=>WQ l fun l=>k (.agg l)
 |.jm l,k=>WQ l fun l=>k (.jm l)
 |.nL f a b,k=>WQ a fun a=>WQ b fun b=>k (.nL f a b)
 |.uo t x,k=>fS x fun x=>k (.uo t x)
 |.un,k=>k .un
def WQ:List SV->(List SV->Prop)->Prop
 |[],k=>k []
 |s::r,k=>fS s fun s=>WQ r fun r=>k (s::r)
end
def fHB:HB->(HB->Prop)->Prop
 |.row T cs,k=>WQ cs fun cs=>k (.row T cs)
 |.Hy T cs,k=>WQ cs fun cs=>k (.Hy T cs)
 |.arr T z c l,k=>k (.arr T z c l)
 |.far z c l,k=>k (.far z c l)
 |.vec T N c l,k=>k (.vec T N c l)
 |.mp a b l,k=>k (.mp a b l)
 |.p8 T T' c' c l h,k=>match h with
   |none=>k (.p8 T T' c' c l none)
   |some (n,j)=>fN j fun j=>k (.p8 T T' c' c l (some (n,j)))
 |.NW z c l,k=>k (.NW z c l)
 |.ext o A,k=>k (.ext o A)
 |.gone,k=>k .gone
def fT {α:Type}:List α->(List α->Prop)->Prop
 |[],k=>k []
 |x::r,k=>k (x::r)
def fE1:List (Nat×SV)->(List (Nat×SV)->Prop)->Prop
 |[],k=>k []
 |(t,s)::r,k=>fS s fun s=>fT r fun r=>k ((t,s)::r)
def fG1:List (Nat×(Path×SV))->(List (Nat×(Path×SV))->Prop)->Prop
 |[],k=>k []
 |(t,(π,s))::r,k=>fS s fun s=>fT r fun r=>k ((t,(π,s))::r)
def fK1:List (Nat×Bool)->(List (Nat×Bool)->Prop)->Prop
 |[],k=>k []
 |x::r,k=>fT r fun r=>k (x::r)
def fHn:Nat->List (Nat×HB)->(List (Nat×HB)->Prop)->Prop
 |_,[],k=>k []
 |0,p::r,k=>k (p::r)
 |n+1,(i,h)::r,k=>fN i fun i=>fHB h fun h=>fHn n r fun r=>k ((i,h)::r)
def thenS (σ:St) (K:St->Prop):Prop:=match σ with
 |⟨env,gen,kn,heap,nb,n0⟩=>fE1 env fun env=>fG1 gen fun gen=>fK1 kn fun kn=>fHn 4 heap fun heap=>fN nb fun nb=>fN n0 fun n0=>K ⟨env,gen,kn,heap,nb,n0⟩
def fE:List (Nat×SV)->(List (Nat×SV)->Prop)->Prop
 |[],k=>k []
 |(t,s)::r,k=>fO t fun t=>fS s fun s=>fE r fun r=>k ((t,s)::r)
def fH:List (Nat×HB)->(List (Nat×HB)->Prop)->Prop
 |[],k=>k []
 |(i,h)::r,k=>fN i fun i=>fHB h fun h=>fH r fun r=>k ((i,h)::r)
def kV (σ:St) (K:St->Prop):Prop:=match σ with
 |⟨env,gen,kn,heap,nb,n0⟩=>fE env fun env=>fG1 gen fun gen=>fK1 kn fun kn=>fH heap fun heap=>fN nb fun nb=>fN n0 fun n0=>K ⟨env,gen,kn,heap,nb,n0⟩
theorem xE (n:Nat) (k:Nat->Prop):fO n k=k n:=by cases n<;>rfl
theorem fM_eq (n:Nat) (k:Nat->Prop):fM n k=k n:=by unfold fM;split<;>rfl
theorem oL (n:Nat) (k:Nat->Prop):fN n k=k n:=by
 unfold fN;split
 all_goals first|rfl|rw [fM_eq]
mutual
theorem OP:∀ (s:SV) (k:SV->Prop),fS s k=k s
 |.v x,k=>by rw [fS]
 |.i n,k=>by rw [fS]
 |.b n,k=>by rw [fS]
 |.w8 n,k=>by rw [fS]
 |.w32 n,k=>by rw [fS]
 |.jg n,k=>by rw [fS]
 |.str n,k=>by rw [fS]
 |.loc i o,k=>by rw [fS,oL,xE]
 |.bT i,k=>by rw [fS,oL]
 |.wN i,k=>by rw [fS,oL]
 |.DN i n,k=>by rw [fS,oL]
 |.sub i c lo hi,k=>by rw [fS,oL,xE]
 |.Ah i c n o,k=>by rw [fS,oL,xE,xE]
 |.Ag i c N n o,k=>by rw [fS,oL,xE,xE,xE]
 |.DF i c N lo hi,k=>by rw [fS,oL,xE,xE]
 |.av c N l,k=>by rw [fS]
 |.aW z c l,k=>by rw [fS]
 |.fp cs o,k=>by rw [fS,xD cs,xE]
 |.lH c N l,k=>by rw [fS]
 |.yN cs,k=>by rw [fS,xD cs]
 |.agg l,k=>by rw [fS,xD l]
 |.jm l,k=>by rw [fS,xD l]
 |.nL f a b,k=>by rw [fS,xD a,xD b]
 |.uo t x,k=>by rw [fS,OP x]
 |.un,k=>by rw [fS]
theorem xD:∀ (l:List SV) (k:List SV->Prop),WQ l k=k l
 |[],k=>by rw [WQ]
 |s::r,k=>by rw [WQ,OP s,xD r]
end
theorem aak (h:HB) (k:HB->Prop):fHB h k=k h:=by
 cases h<;>simp only [fHB,xD]<;>(split<;>simp only [oL])
theorem Wt {α:Type} (l:List α) (k:List α->Prop):fT l k=k l:=by cases l<;>rfl
theorem fE1_eq (l:List (Nat×SV)) (k:List (Nat×SV)->Prop):fE1 l k=k l:=by
 cases l with
 |nil=>rfl
 |cons p r=>obtain⟨t,s⟩:=p;rw [fE1,OP,Wt]
theorem aal (l:List (Nat×(Path×SV))) (k:List (Nat×(Path×SV))->Prop):fG1 l k=k l:=by
 cases l with
 |nil=>rfl
 |cons p r=>obtain⟨t,π,s⟩:=p;rw [fG1,OP,Wt]
theorem aah (l:List (Nat×Bool)) (k:List (Nat×Bool)->Prop):fK1 l k=k l:=by
 cases l with
 |nil=>rfl
 |cons p r=>rw [fK1,Wt]
theorem aai:∀ (n:Nat) (l:List (Nat×HB)) (k:List (Nat×HB)->Prop),fHn n l k=k l
 |0,[],_=>rfl
 |_+1,[],_=>rfl
 |0,_::_,_=>rfl
 |n+1,(i,h)::r,k=>by rw [fHn,oL,aak,aai n r]
theorem aam:∀ (l:List (Nat×SV)) (k:List (Nat×SV)->Prop),fE l k=k l
 |[],_=>rfl
 |(t,s)::r,k=>by rw [fE,xE,OP,aam r]
theorem aaj:∀ (l:List (Nat×HB)) (k:List (Nat×HB)->Prop),fH l k=k l
 |[],_=>rfl
 |(t,s)::r,k=>by rw [fH,oL,aak,aaj r]
theorem wm (σ:St) (K:St->Prop):thenS σ K=K σ:=by
 cases σ;simp only [thenS,fE1_eq,aal,aah,aai,oL]
theorem iL (σ:St) (K:St->Prop):kV σ K=K σ:=by
 cases σ;simp only [kV,aam,aal,aah,aaj,oL]
def sp:Nat->List SV->List SV×List SV
 |0,l=>([],l)
 |_+1,[]=>([],[])
 |n+1,x::r=>match sp n r with
   |(a,b)=>(x::a,b)
theorem sp_eq:∀ (n:Nat) (l:List SV),sp n l=(l.take n,l.drop n)
 |0,l=>by simp [sp]
 |_+1,[]=>by simp [sp]
 |n+1,x::r=>by simp [sp,sp_eq n r]
def OX (c:Nat):Nat->List SV->Option (Li c)
 |0,[]=>some []
 |0,_::_=>none
 |n+1,cs=>match sp (KT c) cs with
   |(a,b)=>match DC c a,OX c n b with
     |some x,some l=>some (x::l)
     |_,_=>none
def rep:Nat->List SV->List SV
 |0,_=>[]
 |n+1,l=>l++rep n l
def vS {α:Type} (l:List α) (lo hi:Nat) (l2:List α):List α:=l.take lo++l2.take (hi-lo)++l.drop (lo+min (hi-lo) l2.length)
section
variable (E:En)
def toAv (c N:Nat) (s:SV):SV:=match s with
 |.agg cs=>match OX c N cs with
   |some l=>.av c N l
   |none=>s
 |s=>s
def KZ (σ:St) (d:Option Tmp) (T:TypeId) (x s:SV) (K:St->Prop):Prop:=match nO E T with
 |none=>False
 |some k=>match x with
   |.loc i o=>match lk σ.heap i with
     |some (.row T' cs)=>match Nat.beq (len (cellsOf s)) k,Nat.ble (o+k) (len cs),lK (cellsOf s)with
       |true,true,true=>K (eX (setH σ i (.row T' (over cs o (cellsOf s)))) d .und)
       |_,_,_=>False
     |some (.vec T' N c _)=>match toAv c N s,o with
       |.av c' N' l',0=>match jN c' c l',Nat.beq N N',Nat.beq k (N*KT c)with
         |some l,true,true=>K (eX (setH σ i (.vec T' N c l)) d .und)
         |_,_,_=>False
       |_,_=>False
     |_=>False
   |.Ah i c n o=>match lk σ.heap i with
     |some (.arr T' z c' l')=>match jN c' c l',Nat.beq (len (cellsOf s)) k,Nat.ble (o+k) (KT c)&&Nat.ble 1 k,lK (cellsOf s)with
       |some l,true,true,true=>match ES c (gt c l n.toNat)with
         |some cs=>match DC c (over cs o (cellsOf s))with
           |some y=>K (eX (setH σ i (.arr T' z c (l.set n.toNat y))) d .und)
           |none=>False
         |none=>False
       |_,_,_,_=>False
     |_=>False
   |.DN i n=>match lk σ.heap i,s with
     |some (.p8 T1 T2 c' c ls (some (k0,_))),.bT j=>match lk σ.heap j,Nat.beq k 1 with
       |some (.arr ..),true=>Ob (n=k0)/\K (eX (setH σ i (.p8 T1 T2 c' c ls (some (n,j)))) d .und)
       |_,_=>False
     |_,_=>False
   |.Ag i c N n o=>match lk σ.heap i with
     |some (.vec T' N' c' l')=>match jN c' c l',Nat.beq (len (cellsOf s)) k,Nat.ble (o+k) (KT c)&&Nat.ble 1 k,lK (cellsOf s),Nat.beq N N' with
       |some l,true,true,true,true=>match ES c (gt c l n.toNat)with
         |some cs=>match DC c (over cs o (cellsOf s))with
           |some y=>K (eX (setH σ i (.vec T' N c (l.set n.toNat y))) d .und)
           |none=>False
         |none=>False
       |_,_,_,_,_=>False
     |_=>False
   |_=>False
def RY (σ:St) (d:Option Tmp) (T:TypeId) (cs:List SV) (K:St->Prop):Prop:=match E.TI T with
 |some ⟨.arr n e,k,_,_,_,_⟩=>match codeOf E e with
   |some c=>match OX c n cs,Nat.beq k (n*KT c)with
     |some l,true=>K (eX (j3 σ (.vec T n c l)) d (.loc σ.nb 0))
     |_,_=>False
   |none=>False
 |some ⟨_,k,_,_,_,_⟩=>match Nat.beq (len cs) k,lK cs with
   |true,true=>K (eX (j3 σ (.row T cs)) d (.loc σ.nb 0))
   |_,_=>False
 |none=>False
def rowC (E:En) (e:TypeId) (c':Nat):Option (TypeId×Nat×ah c'):=match E.TI e with
 |some ⟨.slice e2,1,_,_,.slice none 0 0,_⟩=>match E.TI e2 with
   |some i2=>match RW c' i2.code [],Nat.beq (KT c') 1 with
     |some z,true=>some (e2,i2.code,z)
     |_,_=>none
   |none=>none
 |_=>none
def PL (σ:St) (d:Option Tmp) (T:TypeId) (n m:Int) (K:St->Prop):Prop:=match pV E T with
 |some (e,i)=>match rowC E e i.code with
  |some (e2,c,z)=>Ob (0<=n/\n=m/\n*BT i.code<=140737488355328)/\K (eX (j3 σ (.p8 e e2 i.code c (List.replicate n.toNat z) none)) d (.wN σ.nb))
  |none=>match DC i.code (UL i.z.cells.toList)with
   |some z=>Ob (0<=n/\n=m/\n*BT i.code<=140737488355328)/\K (eX (j3 σ (.arr e (some false) i.code (List.replicate n.toNat z))) d (.bT σ.nb))
   |none=>False
 |none=>False
def Fh (σ:St) (d:Option Tmp) (T:TypeId) (n:Nat) (ps:List (Nat×SV)) (K:St->Prop):Prop:=match pV E T with
 |some (e,i)=>match n,ps with
   |0,[]=>K (eX (j3 σ (.arr e (some false) i.code [])) d (.bT σ.nb))
   |0,_::_=>False
   |n+1,ps=>match zJ (KT i.code) ps (rep (n+1) (UL i.z.cells.toList)),Nat.ble ((n+1)*i.size) 16777216&&Nat.ble 1 i.size,Nat.ble ((n+1)*i.bytes) 140737488355328 with
     |some cs,true,true=>match OX i.code (n+1) cs with
       |some l=>K (eX (j3 σ (.arr e (some false) i.code l)) d (.bT σ.nb))
       |none=>False
     |_,_,_=>False
 |none=>False
def Fj (σ:St) (d:Option Tmp) (T:TypeId) (n:Nat) (ps:List (Nat×SV)) (K:St->Prop):Prop:=match E.TI T with
 |some ⟨.slice e,_,_,_,_,_⟩=>match E.TI e with
   |some i=>match zJ 1 ps (rep n (UL i.z.cells.toList)),Nat.beq i.size 1,Nat.ble 1 n&&Nat.ble n 1000 with
     |some cs,true,true=>match Nat.beq (len cs) n with
       |true=>K (eX σ d (.yN cs))
       |false=>False
     |_,_,_=>False
   |none=>False
 |_=>False
def wz (σ:St) (s:SV):St×SV:=match s with
 |.sub j c lo hi=>match lk σ.heap j with
   |some (.arr e _ c' l)=>match jN c' c l with
     |some l=>(j3 (setH σ j .gone) (.arr e none c ((l.drop lo.toNat).take (hi.toNat-lo.toNat))),.bT σ.nb)
     |none=>(σ,s)
   |_=>(σ,s)
 |s=>(σ,s)
def vV (σ:St) (d:Option Tmp) (T:TypeId) (s:SV) (l2:(c:Nat)->Option (Li c)) (K:St->Prop):Prop:=match pV E T with
 |some (e,i)=>match l2 i.code with
   |some m=>match s with
     |.v (.slice none 0 0)=>Ob (m.length*BT i.code<=140737488355328)/\K (eX (j3 σ (.arr e none i.code m)) d (.bT σ.nb))
     |.bT j=>match lk σ.heap j with
       |some (.arr e' _ c' l')=>match jN c' i.code l',Nat.beq e e' with
         |some l,true=>Ob ((l.length+m.length)*BT i.code<=140737488355328)/\K (eX (j3 (setH σ j .gone) (.arr e none i.code (l++m))) d (.bT σ.nb))
         |_,_=>False
       |_=>False
     |_=>False
   |none=>False
 |none=>False
def Ko (σ:St) (c:Nat):SV->Option (Nat×TypeId×Option Bool×Li c×Nat×Nat)
 |.bT j=>match lk σ.heap j with
   |some (.arr e z c' l')=>match jN c' c l' with
     |some l=>some (j,e,z,l,0,l.length)
     |none=>none
   |_=>none
 |.sub j c0 lo hi=>match Nat.beq c0 c,lk σ.heap j with
   |true,some (.arr e z c' l')=>match jN c' c l' with
     |some l=>some (j,e,z,l,lo.toNat,hi.toNat)
     |none=>none
   |_,_=>none
 |_=>none
def PS (σ:St) (d:Option Tmp) (T:TypeId) (s:SV) (l2:(c:Nat)->Option (Li c)) (K:St->Prop):Prop:=match pV E T with
 |some (_,i)=>match l2 i.code,Ko σ i.code s,Nat.beq i.size 1 with
   |some m,some (j,e,z,l,lo,hi),true=>K (eX (setH σ j (.arr e z i.code (vS l lo hi m))) d (.i (min (hi-lo) m.length:Nat)))
   |_,_,_=>False
 |none=>False
def K6 (σ:St) (d:Option Tmp) (T:TypeId) (s:SV) (t:ByteArray) (K:St->Prop):Prop:=match pV E T with
 |some (e0,_)=>match E.TI e0,Ko σ 3 s with
   |some ⟨.int .u8,_,_,3,_,_⟩,some (j,e,z,l,lo,hi)=>Ob (t.size<=hi-lo)/\K (eX (setH σ j (.arr e z 3 (vS l lo hi t.data.toList))) d (.i t.size))
   |_,_=>False
 |none=>False
def K7 (σ:St) (d:Option Tmp) (T:TypeId) (s:SV) (K:St->Prop):Prop:=match d,pV E T with
 |none,some (_,i)=>match DC i.code (UL i.z.cells.toList),Ko σ i.code s with
   |some z0,some (j,e,z,l,lo,hi)=>K (setH σ j (.arr e z i.code (vS l lo hi (List.replicate (hi-lo) z0))))
   |_,_=>False
 |_,_=>False
def xV (σ:St) (d:Option Tmp) (T:TypeId) (s:SV) (t:ByteArray) (K:St->Prop):Prop:=match pV E T with
 |some (e0,_)=>match E.TI e0 with
   |some ⟨.int .u8,_,_,3,_,_⟩=>vV E σ d T s (fun c=>jN 3 c t.data.toList) K
   |_=>False
 |none=>False
def zB (n:Nat):ByteArray:=⟨⟨List.replicate n 0⟩⟩
def BK (σ:St) (d:Option Tmp) (T U:TypeId) (s:SV) (n:Int) (K:St->Prop):Prop:=match pV E T with
 |some (_,i)=>match E.TI U,i.z with
   |some ⟨.int .i64,_,_,_,_,_⟩,.int .u8 (.ofNat 0)=>Ob (0<n)/\xV E σ d T s (zB n.toNat) K
   |_,_=>False
 |none=>False
def Xa (σ:St) (d:Option Tmp) (T:TypeId) (K:St->Prop):Prop:=match E.TI T with
 |some ⟨.map kt vt,_,_,_,_,_⟩=>match codeOf E kt,codeOf E vt with
   |some kc,some vc=>match E.KO kt kc,gnd vc with
     |true,true=>K (eX (j3 σ (.mp kc vc [])) d (.bT σ.nb))
     |_,_=>False
   |_,_=>False
 |_=>False
def RU (σ:St) (d:Option Tmp) (T:TypeId) (x k s:SV) (K:St->Prop):Prop:=match E.TI T,x with
 |some ⟨.map kt _,_,_,_,_,_⟩,.bT i=>match lk σ.heap i with
   |some (.mp kc vc l)=>match E.KO kt kc,gnd kc,DV kc k,DV vc s,gnd vc with
     |true,true,some x,some y,true=>K (eX (setH σ i (.mp kc vc (fV l x y))) d .und)
     |_,_,_,_,_=>False
   |_=>False
 |_,_=>False
def K8 (σ:St) (d:Option Tmp) (T:TypeId) (x:SV) (K:St->Prop):Prop:=match pV E T,x with
 |some (e,i),.str s=>match Nat.beq i.code 3,E.TI e with
   |true,some ⟨.int .u8,_,_,_,_,_⟩=>Ob ((s.size:Int)<=140737488355328)/\K (eX σ d (.aW none 3 s.data.toList))
   |_,_=>False
 |_,_=>False
def vU (σ:St) (d:Option Tmp) (T:TypeId) (x:SV) (K:St->Prop):Prop:=match pV E T,x with
 |some (e,i),.str s=>match Nat.beq i.code 3,E.TI e with
   |true,some ⟨.int .u8,_,_,_,_,_⟩=>Ob ((s.size:Int)<=140737488355328)/\K (eX (j3 σ (.arr e none 3 s.data.toList)) d (.bT σ.nb))
   |_,_=>False
 |_,_=>False
def PK (σ:St) (d:Option Tmp) (S T:TypeId) (x:SV) (K:St->Prop):Prop:=match Nat.beq S T,E.TI S,x with
 |true,some ⟨.slice e,_,_,_,_,_⟩,.bT j=>match E.TI e,lk σ.heap j with
   |some ⟨.int .u8,_,_,_,_,_⟩,some (.arr e' z 3 (y::l))=>match Nat.beq e e' with
     |true=>K (eX (setH σ j .gone) d (.aW none 3 (y::l)))
     |false=>False
   |_,_=>False
 |_,_,_=>False
end
def zF (σ:St) (i:Nat):St:=match Nat.ble σ.n0 i,lk σ.heap i with
 |true,some (.p8 T T' c' c ls (some (k,j)))=>match lk σ.heap j with
   |some (.arr e _ c2 l2)=>match Nat.beq e T',Nat.beq c2 c,RW c' c2 l2 with
     |true,true,some x=>setH (setH σ j .gone) i (.p8 T T' c' c (ls.set k.toNat x) none)
     |_,_,_=>σ
   |_=>σ
 |_,_=>σ
def PN (E:En) (σ:St) (d:Option Tmp) (T:TypeId) (i:Nat) (n:Int) (K:St->Prop):Prop:=match zP E T,Nat.ble σ.n0 i,lk (zF σ i).heap i with
 |.flat,true,some (.p8 T1 T2 c' c ls none)=>match ES c' (gt c' ls n.toNat)with
   |some [.aW none c2 l]=>K (eX (j3 (setH (zF σ i) i (.p8 T1 T2 c' c ls (some (n,σ.nb)))) (.arr T2 none c2 l)) d (.bT σ.nb))
   |_=>False
 |_,_,_=>False
def flat (f:SV->List Nat):List SV->List Nat
 |[]=>[]
 |s::r=>f s++flat f r
def qP (f:SV->SV):List SV->List SV
 |[]=>[]
 |s::r=>f s::qP f r
def frF (σ:St):Nat->SV->List Nat
 |0,_=>[]
 |n+1,s=>match s with
   |.bT i=>match lk σ.heap i with
     |some (.arr ..)=>[i]
     |_=>[]
   |.wN i=>match lk σ.heap i with
     |some (.p8 _ _ _ _ _ none)=>[i]
     |_=>[]
   |.loc i _=>match lk σ.heap i with
     |some (.row _ cs)=>i::flat (frF σ n) cs
     |_=>[]
   |.agg l=>flat (frF σ n) l
   |.jm l=>flat (frF σ n) l
   |.yN l=>flat (frF σ n) l
   |.nL _ a b=>flat (frF σ n) a++flat (frF σ n) b
   |.uo _ x=>frF σ n x
   |_=>[]
def frN (σ:St) (s:SV):List Nat:=frF σ 6 s
def Lu (σ:St) (l:List SV):List Nat:=flat (frF σ 6) l
def oZ (σ:St):List Nat->St
 |[]=>σ
 |i::r=>match lk σ.heap i with
   |some (.arr _ z c l)=>oZ (setH σ i (.far z c l)) r
   |some (.row T cs)=>oZ (setH σ i (.Hy T cs)) r
   |some (.p8 _ _ c' _ ls none)=>oZ (setH σ i (.NW none c' ls)) r
   |_=>oZ σ r
def WY (σ:St):Nat->SV->SV
 |0,s=>s
 |n+1,s=>match s with
   |.bT i=>match lk σ.heap i with
     |some (.far z c l)=>.aW z c l
     |_=>.bT i
   |.wN i=>match lk σ.heap i with
     |some (.NW z c l)=>.aW z c l
     |_=>.wN i
   |.loc i o=>match lk σ.heap i with
     |some (.Hy _ cs)=>.fp (qP (WY σ n) cs) o
     |_=>.loc i o
   |.agg l=>.agg (qP (WY σ n) l)
   |.jm l=>.jm (qP (WY σ n) l)
   |.yN l=>.yN (qP (WY σ n) l)
   |.nL f a b=>.nL f (qP (WY σ n) a) (qP (WY σ n) b)
   |.uo t x=>.uo t (WY σ n x)
   |s=>s
def vw (σ:St) (s:SV):SV:=WY σ 6 s
def vwL (σ:St) (l:List SV):List SV:=qP (WY σ 6) l
def RO (σ:St):Nat->SV->SV
 |0,s=>s
 |n+1,s=>match s with
   |.bT i=>match lk σ.heap i with
     |some (.arr _ z c l)=>.aW z c l
     |some (.far z c l)=>.aW z c l
     |_=>.bT i
   |.loc i o=>match lk σ.heap i with
     |some (.row _ cs)=>.fp (qP (RO σ n) cs) o
     |some (.Hy _ cs)=>.fp (qP (RO σ n) cs) o
     |_=>.loc i o
   |.agg l=>.agg (qP (RO σ n) l)
   |.jm l=>.jm (qP (RO σ n) l)
   |.nL f a b=>.nL f (qP (RO σ n) a) (qP (RO σ n) b)
   |s=>s
def frP (σ:St):List (Nat×SV)->List Nat
 |[]=>[]
 |(_,s)::r=>frN σ s++frP σ r
def vwP (σ:St):List (Nat×SV)->List (Nat×SV)
 |[]=>[]
 |(i,s)::r=>(i,vw σ s)::vwP σ r
structure Fact (E:En) where
 f:FuncId
 app:List SV->PR
 fn:dA E.P f
 ok:∀ args (m:Mm) (ids vs:List Value),lU E.G m->(∀ b,m.S b->b<m.w.heap.size)->aC m ids args vs ->
   iR (app args) fun s=>Calls E.P f vs.toArray m.w fun e w'=>∃ v S',e=.returned v/\Ext m.w w'/\m.le ⟨w',S'⟩/\(∀ b,S' b->b<w'.heap.size/\(m.S b\/m.w.heap.size<=b))/\Den ⟨w',S'⟩ [] s v
def Mt:PR->Bool
 |.no=>true
 |_=>false
def findF {E:En}:List (Fact E)->FuncId->List SV->PR
 |[],_,_=>.no
 |F::r,f,args=>match Nat.beq F.f f with
   |true=>match Mt (F.app args)with
     |true=>findF r f args
     |false=>F.app args
   |false=>findF r f args
def HT (ids:List Value) (H:List (Nat×HB)) (b:Nat):Prop:=∃ i hb,lk H i=some hb/\Fp ids i hb b
structure HC (E:En) (f:FuncId) (n:Nat) (args:List SV) (H:List (Nat×HB)) (R:SV->List (Nat×HB)->Nat->Prop):Prop where
 fn:dA E.P f
 ok:∀ (m:Mm) (ids vs:List Value),lU E.G m->(∀ b,m.S b->b<m.w.heap.size)->ids.length=n->pQ m ids H->aC m ids args vs ->
   Calls E.P f vs.toArray m.w fun e w'=>∃ v S' aO s H',e=.returned v/\R s H' aO.length/\Mod (HT ids H) m.w w'/\m.le ⟨w',S'⟩/\(∀ b,S' b->b<w'.heap.size/\(m.S b\/HT ids H b\/m.w.heap.size<=b)) /\
     (∀ i,i<n->aO[i]?=ids[i]?)/\n<=aO.length/\pQ ⟨w',S'⟩ aO H'/\(∀ b,HT aO H' b->HT ids H b\/m.w.heap.size<=b)/\Den ⟨w',S'⟩ aO s v
def zG (n z:Nat) (r:List Nat):HB->HB
 |.row T cs=>.row T (vJ n z r cs)
 |.Hy T cs=>.Hy T (vJ n z r cs)
 |.p8 T T' c' c l (some (k,j))=>.p8 T T' c' c l (some (k,rn n z r j))
 |h=>h
def renH (n z:Nat) (r:List Nat):List (Nat×HB)->List (Nat×HB)
 |[]=>[]
 |(i,h)::l=>(rn n z r i,zG n z r h)::renH n z r l
def OG:List Nat->List (Nat×HB)
 |[]=>[]
 |i::r=>(i,.gone)::OG r
def Oc (i:Nat):List Nat->Bool
 |[]=>false
 |j::r=>match Nat.beq i j with
   |true=>true
   |false=>Oc i r
def Gx:List Nat->Bool
 |[]=>true
 |i::r=>match Oc i r with
   |true=>false
   |false=>Gx r
def D7 (n:Nat):List Nat->Bool
 |[]=>true
 |i::r=>match Nat.blt i n with
   |true=>D7 n r
   |false=>false
def ig:Nat->Nat->List Nat
 |_,0=>[]
 |k,n+1=>k::ig (k+1) n
def live:List Nat->List (Nat×HB)->List (Nat×HB)
 |_,[]=>[]
 |seen,(i,h)::r=>match Oc i seen with
   |true=>live seen r
   |false=>match h with
     |.gone=>live (i::seen) r
     |h=>(i,h)::live (i::seen) r
def AZ:List (Nat×HB)->List Nat
 |[]=>[]
 |(i,_)::r=>i::AZ r
def HM (σ:St) (n z:Nat) (r:List Nat):List (Nat×HB)->Prop
 |[]=>True
 |(i,h)::l=>lk σ.heap (rn n z r i)=some (zG n z r h)/\HM σ n z r l
def Ws (σ:St) (n:Nat) (r:List Nat) (H':List (Nat×HB)) (n':Nat):St :=
 { σ with heap:=renH 0 0 (r++ig σ.nb (n'-n)) H'++(OG r++σ.heap),nb:=σ.nb+(n'-n) }
def O1 (E:En) (σ:St) (d:Option Tmp) (f:FuncId) (args:List SV) (K:St->Prop):Prop :=
 ∃ n A H R r,HC E f n A H R/\Gx r=true/\D7 σ.nb r=true/\len r=n/\vJ 0 σ.nb r A=args/\D7 n (AZ H)=true/\HM σ 0 σ.nb r (live [] H) /\
   ∀ s H' n',R s H' n'->D7 n' (AZ H')=true/\Nat.ble n n'=true/\kV (eX (Ws σ n r H' n') d (ren 0 0 (r++ig σ.nb (n'-n)) s)) K
abbrev Ic:=FuncId->Option (List SV->St->(SV->St->Prop)->Prop)
def Wz (E:En) (ic:Ic):Prop:=∀ (f:FuncId) (g:List SV->St->(SV->St->Prop)->Prop),ic f=some g->∀ (args:List SV) (σ:St) (K:SV->St->Prop) (m:Mm) (ids vs:List Value),
 lU E.G m->(∀ b,m.S b->b<m.w.heap.size)->ids.length=σ.nb->pQ m ids σ.heap->aC m ids args vs->g args σ K ->
 dA E.P f/\Calls E.P f vs.toArray m.w fun e w'=>∃ v S' aO s σ',e=.returned v/\K s σ'/\Mod (HT ids σ.heap) m.w w'/\m.le ⟨w',S'⟩/\(∀ b,S' b->b<w'.heap.size/\(m.S b\/HT ids σ.heap b\/m.w.heap.size<=b)) /\
   (∀ i,i<σ.nb->aO[i]?=ids[i]?)/\aO.length=σ'.nb/\pQ ⟨w',S'⟩ aO σ'.heap/\(∀ b,HT aO σ'.heap b->HT ids σ.heap b\/m.w.heap.size<=b)/\Den ⟨w',S'⟩ aO s v
structure Db (E:En) where
 facts:List (Fact E)
 ic:Ic
 ok:Wz E ic
def callA (E:En) (ic:Ic) (σ:St) (d:Option Tmp) (f:FuncId) (args:List SV) (K:St->Prop):Prop:=match ic f with
 |some g=>g args σ fun s σ'=>kV (eX { σ with heap:=σ'.heap,nb:=σ'.nb } d s) K
 |none=>O1 E σ d f args K\/∃ fs,O1 E (oZ σ fs) d f (vwL (oZ σ fs) args) K
def pok (σ:St):Path->Path->Bool
 |_,[]=>true
 |pre,(t,b)::r=>match σ.slot pre t with
   |some (.b _)=>pok σ (pre++[(t,b)]) r
   |_=>false
def UJ (σ:St):Path->Path->Prop->Prop->Prop
 |_,[],c,p=>c->p
 |pre,(t,b)::r,c,p=>match σ.slot pre t with
   |some (.b q)=>UJ σ (pre++[(t,b)]) r (c/\q=b) p
   |_=>c->p
def und (σ:St) (pre:Path):Path->Prop->Prop
 |[],p=>p
 |(t,b)::r,p=>match σ.slot pre t with
   |some (.b q)=>UJ σ (pre++[(t,b)]) r (q=b) p
   |_=>p
def hyK (σ:St) (π:Path) (p k:Prop):Prop:=match π with
 |[]=>p->k
 |g::r=>und σ [] (g::r) p->k
def obK (σ:St) (π:Path) (p k:Prop):Prop:=match π with
 |[]=>Ob p/\k
 |g::r=>Ob (und σ [] (g::r) p)/\k
def exK (σ:St) (π:Path) (x:Int) (k:Int->Prop):Prop:=match π with
 |[]=>∃ r,IntKind.i64.wrap x=r/\k r
 |g::q=>∃ r,und σ [] (g::q) (IntKind.i64.wrap x=r)/\k r
def W9 (σ:St) (π:Path) (r:PR) (K:SV->Prop):Prop:=match r with
 |.ok s=>K s
 |.ob p s=>obK σ π p (K s)
 |.hy p s=>hyK σ π p (K s)
 |.hb h p s=>hyK σ π h (obK σ π p (K s))
 |.ar h x=>hyK σ π h (exK σ π x fun r=>K (.i r))
 |.ap h p x=>hyK σ π h (obK σ π p (exK σ π x fun r=>K (.i r)))
 |.no=>False
theorem hyK_iff {σ:St} {π:Path} {p k:Prop}:hyK σ π p k↔(und σ [] π p->k):=by cases π<;>exact Iff.rfl
theorem obK_iff {σ:St} {π:Path} {p k:Prop}:obK σ π p k↔(Ob (und σ [] π p)/\k):=by cases π<;>exact Iff.rfl
theorem exK_iff {σ:St} {π:Path} {x:Int} {k:Int->Prop}:exK σ π x k↔∃ r,und σ [] π (IntKind.i64.wrap x=r)/\k r:=by cases π<;>exact Iff.rfl
theorem WZ {σ:St} {π:Path} {r:PR} {K:SV->Prop}:W9 σ π r K↔match r with
 |.ok s=>K s
 |.ob p s=>Ob (und σ [] π p)/\K s
 |.hy p s=>und σ [] π p->K s
 |.hb h p s=>und σ [] π h->Ob (und σ [] π p)/\K s
 |.ar h x=>und σ [] π h->∃ r,und σ [] π (IntKind.i64.wrap x=r)/\K (.i r)
 |.ap h p x=>und σ [] π h->Ob (und σ [] π p)/\∃ r,und σ [] π (IntKind.i64.wrap x=r)/\K (.i r)
 |.no=>False:=by cases r<;>simp only [W9,hyK_iff,obK_iff,exK_iff]
def Lp (ops:Array Oper) (σ:St) (j:Nat) (b:Bool):Option Path:=match ops[j]? with
 |some ⟨some t,_,_,_,_,_⟩=>match lk σ.gen t with
   |some (ρ,_)=>some (ρ++[(t,b)])
   |none=>some [(t,b)]
 |_=>none
def noP (d:Option Tmp) (π:Path):Bool:=match d with
 |none=>true
 |some t=>Gy t π
mutual
def gv:SV->Bool
 |.i _=>true
 |.b _=>true
 |.w8 _=>true
 |.w32 _=>true
 |.jg _=>true
 |.str _=>true
 |.jm l=>gvL l
 |.agg l=>gvL l
 |_=>false
def gvL:List SV->Bool
 |[]=>true
 |s::r=>match gv s with
   |true=>gvL r
   |false=>false
end
def kP (E:En) (k:Nat) (o:Op):Bool:=match k with
 |1=>!looks E o
 |_=>true
def gPR:PR->Bool
 |.ok s=>gv s
 |.ob _ s=>gv s
 |.hy _ s=>gv s
 |.hb _ _ s=>gv s
 |.ar _ _=>true
 |.ap _ _ _=>true
 |.no=>false
def kF (k:Nat) (r:PR):Bool:=match k with
 |0=>gPR r
 |1=>false
 |_=>true
def callee (E:En) (σ:St) (π:Path) (c:Call):Option (FuncId×List SV):=match c.callee with
 |.value f=>match σ.ev E π f,σ.evs E π c.args.toList with
   |some (.nL f x y),some l=>some (f,x++(l++y))
   |_,_=>none
 |.invoke r n=>match σ.ev E π r,σ.evs E π c.args.toList with
   |some (.uo t x),some l=>match E.MT t n with
     |some (f,none)=>some (f,x::l)
     |some (f,some T)=>match x with
       |.loc i 0=>match G7 E σ T (.loc i 0)with
         |.ok s=>some (f,s::l)
         |_=>none
       |_=>none
     |none=>none
   |_,_=>none
 |_=>none
def callOf:Op->Option Call
 |.call c=>some c
 |_=>none
def kL (k:Nat) (o:Op):Bool:=match k with
 |0=>false
 |1=>false
 |2=>match o with
   |.alloc _=>true
   |.box ..=>true
   |.buildSlice ..=>true
   |.makeSlice ..=>true
   |.makeMap ..=>true
   |.convert ..=>true
   |.binOp ..=>true
   |_=>false
 |_=>true
def gndR (r:PR):PR:=match r with
 |.ok s=>match gv s with
   |true=>.ok s
   |false=>.no
 |.ob p s=>match gv s with
   |true=>.ob p s
   |false=>.no
 |.hy p s=>match gv s with
   |true=>.hy p s
   |false=>.no
 |.hb h p s=>match gv s with
   |true=>.hb h p s
   |false=>.no
 |r=>r
def Oi {E:En} (DB:Db E) (σ:St) (k:Nat) (f:FuncId) (args:List SV):PR:=match DB.ic f with
 |some _=>match k with
   |1=>.no
   |_=>gndR (findF DB.facts f (qP (RO σ 4) args))
 |none=>.no
section
variable (E:En) (DB:Db E) (N:Nat)
def vcL (ic:Ic) (k:Nat) (σ:St) (d:Option Tmp) (o:Op) (K:St->Prop):Prop:=match o with
 |.alloc T=>match E.TI T with
   |some i=>RY E σ d T (UL i.z.cells.toList) K
   |none=>False
 |.box T x=>match σ.ev E [] x with
   |some (.av c N l)=>match E.TI T with
     |some ⟨.arr n _,k,_,_,_,_⟩=>match Nat.beq n N,Nat.beq k (N*KT c)with
       |true,true=>K (eX (j3 σ (.vec T N c l)) d (.loc σ.nb 0))
       |_,_=>False
     |_=>False
   |some s=>match lK (cellsOf s)with
     |true=>RY E σ d T (cellsOf s) K
     |false=>False
   |none=>False
 |.store T x y=>match σ.ev E [] x,σ.ev E [] y with
   |some a,some s=>KZ E σ d T a s K
   |_,_=>False
 |.load T x=>match σ.ev E [] x with
   |some (.DN i n)=>PN E σ d T i n K
   |_=>False
 |.makeSlice T n c=>match σ.ev E [] n,σ.ev E [] c with
   |some (.i n),some (.i m)=>PL E σ d T n m K
   |_,_=>False
 |.buildSlice T n ps=>match σ.kU E [] ps.toList with
   |some l=>match pV E T with
     |some _=>Fh E (oZ σ (frP σ l)) d T n (vwP (oZ σ (frP σ l)) l) K
     |none=>Fj E σ d T n l K
   |none=>False
 |.makeMap T none=>Xa E σ d T K
 |.mapUpdate T m k x=>match σ.ev E [] m,σ.ev E [] k,σ.ev E [] x with
   |some a,some b,some s=>RU E σ d T a (PV b) (PV s) K
   |_,_,_=>False
 |.insert T m k x=>match σ.ev E [] m,σ.ev E [] k,σ.ev E [] x with
   |some a,some b,some s=>RU E σ d T a (PV b) (PV s) K
   |_,_,_=>False
 |.convert s t x=>match isStr E s,σ.ev E [] x with
   |true,some a=>K8 E σ d t a K\/vU E σ d t a K
   |false,some a=>match Nat.beq k 2 with
     |true=>False
     |false=>PK E σ d s t a K
   |_,_=>False
 |.call ⟨.builtin .append,xs,ts⟩=>match xs.toList,ts.toList with
   |[x,y],[T,U]=>match σ.ev E [] x,σ.ev E [] y,Nat.beq T U with
     |some a,some b,true=>match wz σ a with
       |(σ',a')=>vV E σ' d T a' (fun c=>Jv σ c b) K
     |some a,some (.str t),false=>match isStr E U with
       |true=>match wz σ a with
         |(σ',a')=>xV E σ' d T a' t K
       |false=>False
     |some a,some (.i n),false=>match wz σ a with
       |(σ',a')=>BK E σ' d T U a' n K
     |_,_,_=>False
   |_,_=>False
 |.call ⟨.builtin .copy,xs,ts⟩=>match xs.toList,ts.toList with
   |[x,y],[T,U]=>match σ.ev E [] x,σ.ev E [] y with
     |some a,some b=>match isStr E U,b with
       |true,.str t=>K6 E σ d T a t K
       |false,b=>PS E σ d T a (fun c=>Jv σ c b) K
       |_,_=>False
     |_,_=>False
   |_,_=>False
 |.call ⟨.builtin .clear,xs,ts⟩=>match xs.toList,ts.toList with
   |[x],[T]=>match σ.ev E [] x with
     |some a=>K7 E σ d T a K
     |none=>False
   |_,_=>False
 |.call c=>match callee E σ [] c with
   |some (f,args)=>callA E ic σ d f args K
   |none=>False
 |.binOp op T x y _=>match σ.ev E [] x,σ.ev E [] y with
   |some (.aW z c l),some (.v (.slice none 0 0))=>match Bj op with
     |some e=>match Mt (Gz E e T (some true))with
       |false=>∀ b:Bool,(b=true->l=[])->K (eX σ d (.b (Nj e b)))
       |true=>False
     |none=>False
   |some (.bT i),some (.v (.slice none 0 0))=>match lk σ.heap i,Bj op with
     |some (.arr _ _ _ l),some e=>match Mt (Gz E e T (some true))with
       |false=>∀ b:Bool,(b=true->l=[])->K (eX σ d (.b (Nj e b)))
       |true=>False
     |_,_=>False
   |some (.sub _ _ lo hi),some (.v (.slice none 0 0))=>match Bj op with
     |some e=>match Mt (Gz E e T (some true))with
       |false=>∀ b:Bool,(b=true->lo=hi)->K (eX σ d (.b (Nj e b)))
       |true=>False
     |none=>False
   |_,_=>False
 |_=>False
def Vg (σ:St) (π:Path) (k:Nat) (o:Op):PR×St:=match callOf o with
 |some c=>match callee E σ π c with
   |some (f,args) =>
     match Oi DB σ k f args with
     |.no=>match findF DB.facts f (vwL (oZ σ (Lu σ args)) args)with
       |.no=>(.no,σ)
       |r=>match kF k r with
         |true=>(r,oZ σ (Lu σ args))
         |false=>(.no,σ)
     |r=>(r,σ)
   |none=>match kP E k o with
     |true=>(evP E σ π o,σ)
     |false=>(.no,σ)
 |none=>match kP E k o with
   |true=>(evP E σ π o,σ)
   |false=>(.no,σ)
def vcU (k:Nat) (o:Oper) (σ:St) (K:St->Prop):Prop:=match Vg E DB σ [] k o.op with
 |(.no,_)=>match kL k o.op with
   |true=>vcL E DB.ic k σ o.dst o.op K
   |false=>False
 |(r,σ')=>W9 σ [] r fun s=>K (eX σ' o.dst s)
def vcG (k:Nat) (o:Oper) (Pp:Path):Nat->St->(St->Prop)->Prop
 |0,_,_=>False
 |n+1,σ,K=>match fresh σ o.dst with
   |false=>False
   |true=>match red σ.kn Pp with
     |.dead=>K (eX σ o.dst .und)
     |.path []=>vcU E DB k o σ K
     |.path ((t,_)::_)=>match σ.slot [] t with
       |some (.b q)=>(q=true->vcG k o Pp n { σ with kn:=(t,true)::σ.kn } K)/\(q=false->vcG k o Pp n { σ with kn:=(t,false)::σ.kn } K)
       |_=>False
def vcOp (ops:Array Oper) (k:Nat) (o:Oper) (σ:St) (K:St->Prop):Prop:=match fresh σ o.dst&&o7 o.dst N with
 |false=>False
 |true=>match o.guard with
   |none=>vcU E DB k o σ K
   |some (j,b)=>match Lp ops σ j b with
     |none=>False
     |some Pp=>match red σ.kn Pp with
       |.dead=>K (eX σ o.dst .und)
       |.path []=>vcU E DB k o σ K
       |.path π=>match pok σ [] π,noP o.dst π with
         |true,true=>match Vg E DB σ π k o.op with
           |(.no,_)=>vcG E DB k o Pp (len Pp+1) σ K
           |(r,σ')=>W9 σ π r fun s=>K (eX (Fz σ' o.dst π s) o.dst .un)
         |_,_=>False
def yP (ops:Array Oper) (kd:Nat->Nat):List Nat->St->(St->Prop)->Prop
 |[],σ,K=>thenS { σ with gen:=[],kn:=[] } K
 |i::l,σ,K=>match ops[i]? with
   |some o=>vcOp E DB N ops (kd i) o σ fun σ'=>thenS σ' fun σ'=>yP ops kd l σ' K
   |none=>False
inductive Plan
 |done
 |take (i:Nat) (p:Plan)
 |one (i:Nat) (p:Plan)
 |two (i:Nat) (p:Plan) (j:Nat) (q:Plan)
 |three (i:Nat) (p:Plan) (j:Nat) (q:Plan) (k:Nat) (r:Plan)
 |four (i:Nat) (p:Plan) (j:Nat) (q:Plan) (k:Nat) (r:Plan) (l:Nat) (s:Plan)
 |five (i:Nat) (p:Plan) (j:Nat) (q:Plan) (k:Nat) (r:Plan) (l:Nat) (s:Plan) (n:Nat) (t:Plan)
def sw (ops:Array Oper) (kd:Nat->Nat) (i:Nat) (σ:St) (K:St->Prop):Prop:=match ops[i]? with
 |some o=>vcOp E DB N ops (kd i) o σ fun σ'=>thenS σ' K
 |none=>False
def yL (ops:Array Oper) (kd:Nat->Nat):Plan->Nat->Array Bool->St->(St->Prop)->Prop
 |.done,_,listed,σ,K=>(Region.ready .any ops listed).isEmpty=true/\thenS { σ with gen:=[],kn:=[] } K
 |_,0,_,_,_=>False
 |.take i p,f+1,listed,σ,K=>BX ops kd listed i=true/\sw E DB N ops kd i σ fun σ'=>yL ops kd p f (listed.setIfInBounds i true) σ' K
 |.one i p,f+1,listed,σ,K=>(Region.ready .any ops listed==[i])=true/\sw E DB N ops kd i σ fun σ'=>yL ops kd p f (listed.setIfInBounds i true) σ' K
 |.two i p j q,f+1,listed,σ,K=>(Region.ready .any ops listed==[i,j])=true/\(sw E DB N ops kd i σ fun σ'=>yL ops kd p f (listed.setIfInBounds i true) σ' K)/\sw E DB N ops kd j σ fun σ'=>yL ops kd q f (listed.setIfInBounds j true) σ' K
 |.three i p j q k r,f+1,listed,σ,K=>(Region.ready .any ops listed==[i,j,k])=true/\(sw E DB N ops kd i σ fun σ'=>yL ops kd p f (listed.setIfInBounds i true) σ' K)/\(sw E DB N ops kd j σ fun σ'=>yL ops kd q f (listed.setIfInBounds j true) σ' K) /\
     sw E DB N ops kd k σ fun σ'=>yL ops kd r f (listed.setIfInBounds k true) σ' K
 |.four i p j q k r l t,f+1,listed,σ,K=>(Region.ready .any ops listed==[i,j,k,l])=true/\(sw E DB N ops kd i σ fun σ'=>yL ops kd p f (listed.setIfInBounds i true) σ' K)/\(sw E DB N ops kd j σ fun σ'=>yL ops kd q f (listed.setIfInBounds j true) σ' K) /\
     (sw E DB N ops kd k σ fun σ'=>yL ops kd r f (listed.setIfInBounds k true) σ' K)/\sw E DB N ops kd l σ fun σ'=>yL ops kd t f (listed.setIfInBounds l true) σ' K
 |.five i p j q k r l t n u,f+1,listed,σ,K=>(Region.ready .any ops listed==[i,j,k,l,n])=true/\(sw E DB N ops kd i σ fun σ'=>yL ops kd p f (listed.setIfInBounds i true) σ' K)/\(sw E DB N ops kd j σ fun σ'=>yL ops kd q f (listed.setIfInBounds j true) σ' K) /\
     (sw E DB N ops kd k σ fun σ'=>yL ops kd r f (listed.setIfInBounds k true) σ' K)/\(sw E DB N ops kd l σ fun σ'=>yL ops kd t f (listed.setIfInBounds l true) σ' K)/\sw E DB N ops kd n σ fun σ'=>yL ops kd u f (listed.setIfInBounds n true) σ' K
def zle (z z':Option Bool):Prop:=z'=none\/z=z'
def zlp (z z':Option Bool) (n:Nat):Prop:=z'=none\/z=z'\/(z'=some false/\0<n)
def eqL (c d:Nat) (l:Li c) (l':Li d):Prop:=match Nat.decEq c d with
 |isTrue h=>(h▸(fun m=>l=m:Li c->Prop):Li d->Prop) l'
 |isFalse _=>False
def eqM (k v k' v':Nat) (l:List (ah k×ah v)) (l':List (ah k'×ah v')):Prop:=match Nat.decEq k k',Nat.decEq v v' with
 |isTrue h,isTrue g=>(h▸g▸(fun m=>l=m:List (ah k×ah v)->Prop):List (ah k'×ah v')->Prop) l'
 |_,_=>False
mutual
def IZ (s t:SV):Prop:=match s with
 |.i a=>match t with
   |.i b=>a=b
   |.un=>True
   |_=>False
 |.b a=>match t with
   |.b b=>a=b
   |.un=>True
   |_=>False
 |.w8 a=>match t with
   |.w8 b=>a=b
   |.un=>True
   |_=>False
 |.w32 a=>match t with
   |.w32 b=>a=b
   |.un=>True
   |_=>False
 |.jg a=>match t with
   |.jg b=>a=b
   |.un=>True
   |_=>False
 |.str a=>match t with
   |.str b=>a=b
   |.un=>True
   |_=>False
 |.aW z c l=>match t with
   |.aW z' c' l'=>zlp z z' l.length/\eqL c c' l l'
   |.un=>True
   |_=>False
 |.jm a=>match t with
   |.jm b=>Zr a b
   |.un=>True
   |_=>False
 |.agg a=>match t with
   |.agg b=>Zr a b
   |.un=>True
   |_=>False
 |.v x=>match t with
   |.un=>True
   |.aW z' _ l'=>match x with
     |.slice none 0 0=>zle (some true) z'/\l'=[]
     |_=>False
   |t=>.v x=t
 |s=>match t with
   |.un=>True
   |t=>s=t
def Zr:List SV->List SV->Prop
 |[],q=>match q with
   |[]=>True
   |_::_=>False
 |s::r,q=>match q with
   |t::q=>IZ s t/\Zr r q
   |[]=>False
end
def leH:HB->HB->Prop
 |.row T a,.row T' b=>T=T'/\Zr a b
 |.Hy T a,.Hy T' b=>T=T'/\Zr a b
 |.arr T z c l,.arr T' z' c' l'=>T=T'/\zle z z'/\eqL c c' l l'
 |.far z c l,.far z' c' l'=>zle z z'/\eqL c c' l l'
 |.vec T N c l,.vec T' N' c' l'=>T=T'/\N=N'/\eqL c c' l l'
 |.mp k v l,.mp k' v' l'=>eqM k v k' v' l l'
 |s,t=>s=t
theorem Dh (c:Nat) (l:Li c):eqL c c l l:=by
 unfold eqL;split
 ·rfl
 ·rename_i h _;exact h rfl
theorem eqM_rf (k v:Nat) (l:List (ah k×ah v)):eqM k v k v l l:=by
 unfold eqM;split
 ·rfl
 ·rename_i h;rcases hk:Nat.decEq k k with a|a
  ·exact a rfl
  ·rcases hv:Nat.decEq v v with b|b
   ·exact b rfl
   ·exact h _ _ hk hv
mutual
theorem Zq (s:SV):IZ s s:=by
 unfold IZ
 match s with
 |.aW z c l=>exact⟨Or.inr (Or.inl rfl),Dh c l⟩
 |.jm a=>exact G9 a
 |.agg a=>exact G9 a
 |.i _ | .b _ | .w8 _ | .w32 _ | .jg _ | .str _ | .v _ | .loc _ _ | .bT _ | .wN _ | .DN _ _ | .sub _ _ _ _ | .Ah _ _ _ _ | .Ag _ _ _ _ _ | .DF _ _ _ _ _ | .av _ _ _ | .fp _ _ | .lH _ _ _ | .yN _ | .nL _ _ _ | .uo _ _ | .un=>first|exact trivial|exact rfl
theorem G9 (a:List SV):Zr a a:=by
 unfold Zr
 match a with
 |[]=>exact trivial
 |s::r=>exact⟨Zq s,G9 r⟩
end
theorem eY {h h':HB} (e:h=h'):leH h h':=by
 subst e
 cases h with
 |row T a=>exact⟨rfl,G9 a⟩
 |Hy T a=>exact⟨rfl,G9 a⟩
 |arr T z c l=>exact⟨rfl,Or.inr rfl,Dh c l⟩
 |far z c l=>exact⟨Or.inr rfl,Dh c l⟩
 |vec T N c l=>exact⟨rfl,rfl,Dh c l⟩
 |mp k v l=>exact eqM_rf k v l
 |ext o A=>exact rfl
 |p8=>exact rfl
 |NW=>exact rfl
 |gone=>exact rfl
def ZC (σ:St):List Nat->List (Nat×SV)
 |[]=>[]
 |t::r=>match σ.slot [] t with
   |some s=>(t,s)::ZC σ r
   |none=>ZC σ r
def hd (σ:St) (ks:List Nat) (q:Nat) (dr:List Nat) (U:List (Nat×SV)) (V:List (Nat×HB)):St :=
 { env:=U++ZC σ ks,gen:=[],kn:=[],heap:=V++(OG dr++σ.heap),nb:=σ.nb+q,n0:=σ.n0 }
def Eh (σ:St) (n z:Nat) (r:List Nat):List (Nat×SV)->Prop
 |[]=>True
 |(t,s)::l=>match σ.slot [] t with
   |some s'=>IZ s' (ren n z r s)/\Eh σ n z r l
   |none=>False
def MF (σ:St) (n z:Nat) (r:List Nat):List (Nat×HB)->Prop
 |[]=>True
 |(i,h)::l=>match lk σ.heap (rn n z r i)with
   |some h'=>leH h' (zG n z r h)/\MF σ n z r l
   |none=>False
def Od (n z:Nat) (r:List Nat):List (Nat×HB)->List Nat
 |[]=>[]
 |(i,_)::l=>rn n z r i::Od n z r l
def meets (n:Nat) (r:List Nat) (σ τ:St):Prop :=
 (D7 σ.nb r&&(Nat.beq (n+len r) τ.nb&&(Nat.ble n σ.nb&&(Nat.ble τ.n0 n&&(Nat.beq σ.n0 τ.n0&&(D7 τ.nb (AZ τ.heap)&&Gx (Od n σ.nb r (live [] τ.heap))))))))=true /\
 Eh σ n σ.nb r τ.env/\MF σ n σ.nb r (live [] τ.heap)
def Y2 (j:Nat):SV->SV->Option Nat
 |.bT k,.bT i=>match Nat.beq i j with
   |true=>some k
   |false=>none
 |.loc k _,.loc i _=>match Nat.beq i j with
   |true=>some k
   |false=>none
 |.wN k,.wN i=>match Nat.beq i j with
   |true=>some k
   |false=>none
 |.sub k _ _ _,.sub i _ _ _=>match Nat.beq i j with
   |true=>some k
   |false=>none
 |_,_=>none
def S9 (j:Nat):List SV->List SV->Option Nat
 |s::r,t::q=>match Y2 j s t with
   |some k=>some k
   |none=>S9 j r q
 |_,_=>none
def nameOf (σ:St) (j:Nat):List (Nat×SV)->Option Nat
 |[]=>none
 |(t,s)::r=>match σ.slot [] t with
   |some s'=>match Y2 j s' s with
     |some k=>some k
     |none=>nameOf σ j r
   |none=>nameOf σ j r
def Ev (σ:St) (j:Nat) (f:Nat->Nat):List (Nat×HB)->Option Nat
 |[]=>none
 |(i,.row _ cs)::r=>match lk σ.heap (f i)with
   |some (.row _ cs')=>match S9 j cs' cs with
     |some k=>some k
     |none=>Ev σ j f r
   |_=>Ev σ j f r
 |_::r=>Ev σ j f r
def CZ (σ:St) (n:Nat) (U:List (Nat×SV)) (V:List (Nat×HB)):Nat->Nat->List Nat->List Nat
 |_,0,acc=>acc
 |j,k+1,acc=>match nameOf σ (n+j) U with
   |some i=>CZ σ n U V (j+1) k (acc++[i])
   |none=>match Ev σ (n+j) (rn n σ.nb acc) V with
     |some i=>CZ σ n U V (j+1) k (acc++[i])
     |none=>CZ σ n U V (j+1) k (acc++[σ.nb])
def Yo (σ:St) (i o:Nat) (s:SV):St:=match lk σ.heap i with
 |some (.row T cs)=>setH σ i (.row T (over cs o [s]))
 |_=>σ
def nilC (σ:St) (i o:Nat) (e:TypeId) (c:Nat):St:=match lk σ.heap i with
 |some (.row T cs)=>match nth cs o with
   |some (.v (.slice none 0 0))=>match Nat.beq e 0 with
     |true=>setH σ i (.row T (over cs o [.aW (some true) c []]))
     |false=>Yo (j3 σ (.arr e none c [])) i o (.bT σ.nb)
   |some (.sub j c0 lo hi)=>match wz σ (.sub j c0 lo hi)with
     |(σ1,s1)=>Yo σ1 i o s1
   |_=>σ
 |_=>σ
def pF:List (Nat×TypeId×Nat)->St->St
 |[],σ=>σ
 |(t,e,c)::r,σ=>match Nat.ble 100000 t with
   |true=>match σ.slot [] (t % 100000)with
     |some (.loc i _)=>pF r (nilC σ i (t / 100000-1) e c)
     |_=>pF r σ
   |false=>match σ.slot [] t,fresh σ (some t)with
     |some (.v (.slice none 0 0)),true=>pF r (eX (j3 σ (.arr e none c [])) (some t) (.bT σ.nb))
     |some (.sub j c0 lo hi),true=>match wz σ (.sub j c0 lo hi)with
       |(σ1,s1)=>pF r (eX σ1 (some t) s1)
     |some (.loc i _),_=>pF r (oZ σ [i])
     |some (.wN i),_=>match Nat.beq e 0,fresh σ (some t)with
       |true,true=>pF r (eX (oZ (zF σ i) [i]) (some t) (vw (oZ (zF σ i) [i]) (.wN i)))
       |_,_=>pF r (zF σ i)
     |_,_=>pF r σ
theorem Vo (x:Nat×TypeId×Nat) (r:List (Nat×TypeId×Nat)) (σ:St):pF (x::r) σ=pF r (pF [x] σ):=by
 obtain⟨t,e,c⟩:=x;rw [pF,pF];split
 ·split<;>rfl
 ·split<;>first|rfl|(split<;>rfl)
def Vp:List (Nat×TypeId×Nat)->St->(St->Prop)->Prop
 |[],σ,k=>kV σ k
 |x::r,σ,k=>kV (pF [x] σ) fun σ=>Vp r σ k
theorem Ma (k:St->Prop):∀ (l:List (Nat×TypeId×Nat)) (σ:St),Vp l σ k=k (pF l σ)
 |[],σ=>by rw [Vp,iL,pF]
 |x::r,σ=>by rw [Vp,iL,Ma k r,<- Vo]
def fNs:List Nat->(List Nat->Prop)->Prop
 |[],k=>k []
 |i::r,k=>fN i fun i=>fNs r fun r=>k (i::r)
theorem Q9:∀ (l:List Nat) (k:List Nat->Prop),fNs l k=k l
 |[],_=>rfl
 |i::r,k=>by rw [fNs,oL,Q9 r]
def pG (n q:Nat) (nl:List (Nat×TypeId×Nat)) (U:List (Nat×SV)) (V:List (Nat×HB)) (σ τ:St):Prop :=
 Vp nl σ fun σ=>fNs (CZ σ n U V 0 q []) fun r=>kV τ fun τ=>meets n r σ τ
theorem QF {n q:Nat} {nl:List (Nat×TypeId×Nat)} {U:List (Nat×SV)} {V:List (Nat×HB)} {σ τ:St}:pG n q nl U V σ τ↔meets n (CZ (pF nl σ) n U V 0 q []) (pF nl σ) τ:=by
 unfold pG;rw [Ma,Q9,iL]
def loopS (vcc:St->(Exit->St->Prop)->Prop) (σ:St) (K:Exit->St->Prop):Prop :=
 ∃ (S:Type) (q:Nat) (nl:List (Nat×TypeId×Nat)) (ks:List Nat) (U:S->List (Nat×SV)) (V:S->List (Nat×HB)) (dr:List Nat) (F:S->Prop) (μ:S->Nat) (s0:S),
   F s0/\pG σ.nb q nl (U s0) (V s0) σ (hd σ ks q dr (U s0) (V s0))/\∀ s,F s->kV (hd σ ks q dr (U s) (V s)) fun σ1=>vcc σ1 fun e σ'=>match e with
     |.normal=>∃ s',F s'/\μ s'<μ s/\pG σ.nb q nl (U s') (V s') σ' (hd σ ks q dr (U s') (V s'))
     |e=>K e σ'
def unr (vcc:St->(Exit->St->Prop)->Prop):Nat->St->(Exit->St->Prop)->Prop
 |0,σ,K=>loopS vcc σ K
 |n+1,σ,K=>vcc σ fun e σ'=>match e with
   |.normal=>unr vcc n σ' K
   |e=>K e σ'
def ZE (vca vcb:St->(Exit->St->Prop)->Prop) (σ:St) (K:Exit->St->Prop):Prop :=
 ∃ (S:Type) (q:Nat) (nl:List (Nat×TypeId×Nat)) (ks:List Nat) (U:S->List (Nat×SV)) (V:S->List (Nat×HB)) (dr:List Nat) (F:S->Prop),
   (vca σ fun e σ'=>match e with
     |.normal=>∃ s,F s/\pG σ.nb q nl (U s) (V s) σ' (hd σ ks q dr (U s) (V s))
     |e=>K e σ')/\∀ s,F s->kV (hd σ ks q dr (U s) (V s)) fun σ1=>vcb σ1 K
def castM (a b c d:Nat) (l:List (ah a×ah b)):Option (List (ah c×ah d)):=match Nat.decEq a c,Nat.decEq b d with
 |isTrue h,isTrue g=>(h▸g▸(some l:Option (List (ah a×ah b))):Option (List (ah c×ah d)))
 |_,_=>none
mutual
def ShS:SV->Type
 |.i _=>Int
 |.b _=>Bool
 |.w8 _=>UInt8
 |.w32 _=>UInt32
 |.jg _=>UInt64
 |.str _=>ByteArray
 |.av c _ _=>Li c
 |.aW _ c _=>Li c
 |.lH c _ _=>Li c
 |.yN _=>Unit
 |.agg l=>ShL l
 |.jm l=>ShL l
 |.v _=>Unit
 |.loc ..=>Unit
 |.bT _=>Unit
 |.wN _=>Unit
 |.DN ..=>Unit
 |.sub _ _ _ _=>Int×Int
 |.Ah ..=>Unit
 |.Ag ..=>Unit
 |.DF ..=>Unit
 |.fp ..=>Unit
 |.nL ..=>Unit
 |.uo ..=>Unit
 |.un=>Unit
def ShL:List SV->Type
 |[]=>Unit
 |s::r=>ShS s×ShL r
end
def isE {α:Type}:List α->Bool
 |[]=>true
 |_::_=>false
def zfi {α:Type} (z:Option Bool) (l:List α):Option Bool:=match z with
 |none=>none
 |some _=>some (isE l)
mutual
def nzS:SV->SV
 |.aW _ c l=>.aW none c l
 |.agg l=>.agg (nzL l)
 |.jm l=>.jm (nzL l)
 |s=>s
def nzL:List SV->List SV
 |[]=>[]
 |s::r=>nzS s::nzL r
end
mutual
def fiS:(s:SV)->ShS s->SV
 |.i _,n=>.i n
 |.b _,n=>.b n
 |.w8 _,n=>.w8 n
 |.w32 _,n=>.w32 n
 |.jg _,n=>.jg n
 |.str _,n=>.str n
 |.av c N _,l=>.av c N l
 |.aW z c _,l=>.aW (zfi z l) c l
 |.lH c N _,l=>.lH c N l
 |.yN cs,_=>.yN cs
 |.agg l,x=>.agg (fiL l x)
 |.jm l,x=>.jm (fiL l x)
 |.v x,_=>.v x
 |.loc i o,_=>.loc i o
 |.bT i,_=>.bT i
 |.wN i,_=>.wN i
 |.DN i k,_=>.DN i k
 |.sub i c _ _,x=>.sub i c x.1 x.2
 |.Ah i c k o,_=>.Ah i c k o
 |.Ag i c N k o,_=>.Ag i c N k o
 |.DF i c N lo hi,_=>.DF i c N lo hi
 |.fp cs o,_=>.fp cs o
 |.nL f a b,_=>.nL f a b
 |.uo t x,_=>.uo t x
 |.un,_=>.un
def fiL:(l:List SV)->ShL l->List SV
 |[],_=>[]
 |s::r,x=>fiS s x.1::fiL r x.2
end
def ShB:HB->Type
 |.row _ cs=>ShL cs
 |.arr _ _ c _=>Li c
 |.vec _ _ c _=>Li c
 |.mp k v _=>List (ah k×ah v)
 |.p8 _ _ c _ _ _=>Li c
 |.NW ..=>Unit
 |.Hy ..=>Unit
 |.far ..=>Unit
 |.ext ..=>Unit
 |.gone=>Unit
def fiB:(h:HB)->ShB h->HB
 |.row T cs,x=>.row T (fiL cs x)
 |.arr T _ c _,l=>.arr T none c l
 |.vec T N c _,l=>.vec T N c l
 |.mp k v _,l=>.mp k v l
 |.p8 T T' c' c _ _,l=>.p8 T T' c' c l none
 |.NW z c l,_=>.NW z c l
 |.Hy T cs,_=>.Hy T cs
 |.far z c l,_=>.far z c l
 |.ext o A,_=>.ext o A
 |.gone,_=>.gone
def ShU:List (Nat×SV)->Type
 |[]=>Unit
 |p::r=>ShS p.2×ShU r
def fiU:(l:List (Nat×SV))->ShU l->List (Nat×SV)
 |[],_=>[]
 |p::r,x=>match (x:ShS p.2×ShU r)with
   |(a,b)=>(p.1,fiS p.2 a)::fiU r b
def ShV:List (Nat×HB)->Type
 |[]=>Unit
 |p::r=>ShB p.2×ShV r
def fiV:(l:List (Nat×HB))->ShV l->List (Nat×HB)
 |[],_=>[]
 |p::r,x=>match (x:ShB p.2×ShV r)with
   |(a,b)=>(p.1,fiB p.2 a)::fiV r b
def YC (σ:St):Nat->SV->Nat->SV×(List (Nat×HB)×Nat)
 |0,s,n=>(s,([],n))
 |f+1,s,n=>match s with
   |.bT j=>match lk σ.heap j with
     |some (.arr T _ c l)=>(.bT n,([(n,.arr T none c l)],n+1))
     |_=>(.bT j,([],n))
   |.agg l=>match patL (YC σ f) l n with
     |(l',r)=>(.agg l',r)
   |.jm l=>match patL (YC σ f) l n with
     |(l',r)=>(.jm l',r)
   |s=>(s,([],n))
where
 patL (g:SV->Nat->SV×(List (Nat×HB)×Nat)):List SV->Nat->List SV×(List (Nat×HB)×Nat)
   |[],n=>([],([],n))
   |s::r,n=>match g s n with
     |(s',(h,n'))=>match patL g r n' with
       |(r',(h',n''))=>(s'::r',(h++h',n''))
def patU (σ:St) (ov:List (Nat×SV)):List Nat->Nat->List (Nat×SV)×(List (Nat×HB)×Nat)
 |[],n=>([],([],n))
 |t::r,n=>match (match lk ov (t+1000000)with|some s=>some s|none=>match (match lk ov t with|some s=>some s|none=>σ.slot [] t)with|some s=>some (nzS s)|none=>none)with
   |some s=>match YC σ 4 s n with
     |(s',(h,n'))=>match patU σ ov r n' with
       |(r',(h',n''))=>((t,s')::r',(h++h',n''))
   |none=>patU σ ov r n
def patV (σ:St):List Nat->Nat->List (Nat×HB)×Nat
 |[],n=>([],n)
 |i::r,n=>match lk σ.heap i with
   |some (.row T cs)=>match YC.patL (YC σ 4) (nzL cs) n with
     |(cs',(h,n'))=>match patV σ r n' with
       |(r',n'')=>((i,.row T cs')::(h++r'),n'')
   |some h=>match patV σ r n with
     |(r',n'')=>((i,h)::r',n'')
   |none=>patV σ r n
mutual
def puS:(s:SV)->SV->(ShS s->Prop)->Prop
 |.i _,s,k=>match s with
   |.i n=>k n
   |_=>False
 |.b _,s,k=>match s with
   |.b n=>k n
   |_=>False
 |.w8 _,s,k=>match s with
   |.w8 n=>k n
   |_=>False
 |.w32 _,s,k=>match s with
   |.w32 n=>k n
   |_=>False
 |.jg _,s,k=>match s with
   |.jg n=>k n
   |_=>False
 |.str _,s,k=>match s with
   |.str n=>k n
   |_=>False
 |.av c _ _,s,k=>match s with
   |.av c' _ l=>match jN c' c l with
     |some l=>k l
     |none=>False
   |_=>False
 |.aW _ c _,s,k=>match asL c s with
   |some l=>k l
   |none=>False
 |.lH c _ _,s,k=>match s with
   |.lH c' _ l=>match jN c' c l with
     |some l=>k l
     |none=>False
   |_=>False
 |.agg l,s,k=>match s with
   |.agg l'=>puL l l' k
   |_=>False
 |.jm l,s,k=>match s with
   |.jm l'=>puL l l' k
   |_=>False
 |.v _,_,k=>k ()
 |.loc ..,_,k=>k ()
 |.bT _,_,k=>k ()
 |.wN _,_,k=>k ()
 |.DN ..,_,k=>k ()
 |.sub _ _ _ _,s,k=>match s with
   |.sub _ _ lo hi=>k (lo,hi)
   |_=>False
 |.Ah ..,_,k=>k ()
 |.Ag ..,_,k=>k ()
 |.DF ..,_,k=>k ()
 |.fp ..,_,k=>k ()
 |.yN _,_,k=>k ()
 |.nL ..,_,k=>k ()
 |.uo ..,_,k=>k ()
 |.un,_,k=>k ()
def puL:(l:List SV)->List SV->(ShL l->Prop)->Prop
 |[],_,k=>k ()
 |s::r,l,k=>match l with
   |[]=>False
   |t::q=>puS s t fun x=>puL r q fun y=>k (x,y)
end
def puB:(h:HB)->HB->(ShB h->Prop)->Prop
 |.row _ cs,h,k=>match h with
   |.row _ cs'=>puL cs cs' k
   |_=>False
 |.arr _ _ c _,h,k=>match h with
   |.arr _ _ c' l=>match jN c' c l with
     |some l=>k l
     |none=>False
   |_=>False
 |.vec _ _ c _,h,k=>match h with
   |.vec _ _ c' l=>match jN c' c l with
     |some l=>k l
     |none=>False
   |_=>False
 |.mp a b _,h,k=>match h with
   |.mp a' b' l=>match castM a' b' a b l with
     |some l=>k l
     |none=>False
   |_=>False
 |.p8 _ _ c _ _ _,h,k=>match h with
   |.p8 _ _ c' _ l none=>match jN c' c l with
     |some l=>k l
     |none=>False
   |_=>False
 |.NW ..,_,k=>k ()
 |.Hy ..,_,k=>k ()
 |.far ..,_,k=>k ()
 |.ext ..,_,k=>k ()
 |.gone,_,k=>k ()
def puU (σ:St):(l:List (Nat×SV))->(ShU l->Prop)->Prop
 |[],k=>k ()
 |p::r,k=>match σ.slot [] p.1 with
   |some s=>puS p.2 s fun x=>puU σ r fun y=>k (x,y)
   |none=>False
def puV (σ:St) (f:Nat->Nat):(l:List (Nat×HB))->(ShV l->Prop)->Prop
 |[],k=>k ()
 |p::r,k=>match lk σ.heap (f p.1)with
   |some h=>puB p.2 h fun x=>puV σ f r fun y=>k (x,y)
   |none=>False
structure KF (a b c:Prop):Prop where
 a:a
 b:b
 c:c
structure eZ (a b c:Prop):Prop where
 a:a
 b:b
 c:c
structure Met (a b:Prop):Prop where
 a:a
 b:b
section
variable (vcc vcd:St->(Exit->St->Prop)->Prop) (nl:List (Nat×TypeId×Nat)) (us:List Nat) (ov:List (Nat×SV)) (hs ks dr:List Nat)
def RJ (σ:St) (k:List (Nat×SV)->List (Nat×HB)->Nat->Prop):Prop:=match patU (pF nl σ) ov us σ.nb with
 |(pu,(ph,n))=>match patV (pF nl σ) hs n with
   |(pv,n')=>fE pu fun pu=>fH (ph++pv) fun pv=>fN (n'-σ.nb) fun q=>k pu pv q
def Nl (σ σ':St) (pu:List (Nat×SV)) (pv:List (Nat×HB)) (q:Nat) (k:ShU pu->ShV pv->Prop):Prop :=
 Vp nl σ' fun σ1=>fNs (CZ σ1 σ.nb pu pv 0 q []) fun r=>puU σ1 pu fun x=>puV σ1 (rn σ.nb σ1.nb r) pv fun y=>k x y
def loopG (σ:St) (K:Exit->St->Prop):Prop:=RJ nl us ov hs σ fun pu pv q =>
 ∃ (F:ShU pu->ShV pv->Prop) (μ:ShU pu->ShV pv->Nat),Nl nl σ σ pu pv q fun x0 y0=>eZ (F x0 y0) (pG σ.nb q nl (fiU pu x0) (fiV pv y0) σ (hd σ ks q dr (fiU pu x0) (fiV pv y0)))
   (∀ x y,F x y->kV (hd σ ks q dr (fiU pu x) (fiV pv y)) fun σ1=>vcc σ1 fun e σ'=>match e with
     |.normal=>Nl nl σ σ' pu pv q fun x' y'=>KF (F x' y') (μ x' y'<μ x y) (pG σ.nb q nl (fiU pu x') (fiV pv y') σ' (hd σ ks q dr (fiU pu x') (fiV pv y')))
     |e=>K e σ')
def joinG (σ:St) (K:Exit->St->Prop):Prop:=RJ nl us ov hs σ fun pu pv q =>
 ∃ (F:ShU pu->ShV pv->Prop),(vcc σ fun e σ'=>match e with
     |.normal=>Nl nl σ σ' pu pv q fun x y=>Met (F x y) (pG σ.nb q nl (fiU pu x) (fiV pv y) σ' (hd σ ks q dr (fiU pu x) (fiV pv y)))
     |e=>K e σ')/\∀ x y,F x y->kV (hd σ ks q dr (fiU pu x) (fiV pv y)) fun σ1=>vcd σ1 K
end
inductive PJ
 |jmp (k:Nat)
 |fin
 |take (i:Nat) (p:PJ)
structure Lab where
 f:Nat
 l:Array Bool
 n:Nat
 st:St
 al:List (Nat×PJ)
def Lab.ok (L:Lab):Bool:=match L.st.gen,L.st.kn with
 |[],[]=>true
 |_,_=>false
section
variable (E:En) (DB:Db E) (N:Nat)
def vcJ (ops:Array Oper) (kd:Nat->Nat) (sH:List Lab):PJ->Nat->Array Bool->St->(St->Prop)->Prop
 |.jmp k,f,listed,σ,_=>match nth sH k with
   |some L=>(Nat.beq f (L.f+1)&&(listed==L.l&&L.ok))=true/\pG L.n (L.st.nb-L.n) [] L.st.env L.st.heap σ L.st
   |none=>False
 |.fin,_,listed,σ,K=>(Region.ready .any ops listed).isEmpty=true/\thenS { σ with gen:=[],kn:=[] } K
 |.take _ _,0,_,_,_=>False
 |.take i p,f+1,listed,σ,K=>BX ops kd listed i=true/\sw E DB N ops kd i σ fun σ'=>vcJ ops kd sH p f (listed.setIfInBounds i true) σ' K
def vcAl (ops:Array Oper) (kd:Nat->Nat) (sH:List Lab) (f:Nat) (listed:Array Bool) (σ:St) (K:St->Prop):List (Nat×PJ)->Prop
 |[]=>True
 |(i,p)::r=>sw E DB N ops kd i σ (fun σ'=>vcJ E DB N ops kd sH p f (listed.setIfInBounds i true) σ' K)/\vcAl ops kd sH f listed σ K r
def VX:List (Nat×PJ)->List Nat
 |[]=>[]
 |(i,_)::r=>i::VX r
def vcLs (ops:Array Oper) (kd:Nat->Nat) (K:St->Prop):List Lab->Prop
 |[]=>True
 |L::r=>(Region.ready .any ops L.l==VX L.al&&!(VX L.al).isEmpty)=true/\vcAl E DB N ops kd r L.f L.l L.st K L.al/\vcLs ops kd K r
end
def mkN:List Oper->Nat
 |[]=>0
 |⟨_,.makeSlice ..,_,_,_,_⟩::r=>mkN r+1
 |_::r=>mkN r
def hasA:List Oper->Bool
 |[]=>false
 |⟨_,.alloc ..,_,_,_,_⟩::_=>true
 |_::r=>hasA r
def hasS:List Oper->Bool
 |[]=>false
 |⟨_,.assign ..,_,_,_,_⟩::_=>true
 |_::r=>hasS r
def ends (id:Option Nat):Code->Nat
 |.skip=>match id with
   |none=>1
   |some _=>0
 |.region _ ops d=>match id with
   |none=>match d&&(Nat.ble 2 (mkN ops.toList)||(hasA ops.toList&&(hasS ops.toList||Nat.ble 1 (mkN ops.toList))))with
     |true=>2
     |false=>1
   |some _=>0
 |.seq a b=>match ends none a with
   |0=>ends id a
   |n=>match id with
     |none=>n*ends none b
     |some i=>ends (some i) a+ends (some i) b
 |.cond _ a b=>ends id a+ends id b
 |.block i c=>match id with
   |none=>ends none c+ends (some i) c
   |some j=>ends (some j) c
 |.loop c=>match id with
   |none=>0
   |some j=>ends (some j) c
 |.exit i=>match id with
   |none=>0
   |some j=>match Nat.beq i j with
     |true=>1
     |false=>0
 |.scope c=>ends id c
 |_=>0
def vc:Code->St->(Exit->St->Prop)->Prop
 |.skip,σ,K=>K .normal σ
 |.ret,σ,K=>K .ret σ
 |.exit i,σ,K=>K (.exit i) σ
 |.region _ ops false,σ,K=>yP E DB N ops (fun _=>3) (ig 0 ops.size) σ fun σ'=>K .normal σ'
 |.region _ ops true,σ,K=>(∃ kd l,okX .any ops (fun i=>List.getD kd i 3) l=true/\yP E DB N ops (fun i=>List.getD kd i 3) l σ fun σ'=>K .normal σ')\/(∃ kd p,yL E DB N ops (fun i=>List.getD kd i 3) p ops.size (Array.replicate ops.size false) σ fun σ'=>K .normal σ') \/
   ∃ kd sH p,vcJ E DB N ops (fun i=>List.getD kd i 3) sH p ops.size (Array.replicate ops.size false) σ (fun σ'=>K .normal σ')/\vcLs E DB N ops (fun i=>List.getD kd i 3) (fun σ'=>K .normal σ') sH
 |.seq a b,σ,K=>match Nat.ble (ends none a) 1 with
   |true=>vc a σ fun e σ'=>match e with
     |.normal=>vc b σ' K
     |e=>K e σ'
   |false=>(vc a σ fun e σ'=>match e with
     |.normal=>vc b σ' K
     |e=>K e σ')\/ZE (vc a) (vc b) σ K\/∃ nl us ov hs ks dr,joinG (vc a) (vc b) nl us ov hs ks dr σ K
 |.cond c a b,σ,K=>match σ.ev E [] c with
   |some (.b q)=>(q=true->vc a σ K)/\(q=false->vc b σ K)
   |_=>False
 |.block i c,σ,K=>vc c σ fun e σ'=>match e with
   |.exit j=>match Nat.beq j i with
     |true=>K .normal σ'
     |false=>K (.exit j) σ'
   |e=>K e σ'
 |.loop c,σ,K=>loopS (vc c) σ K\/(∃ n,unr (vc c) n σ K)\/∃ nl us ov hs ks dr,loopG (vc c) nl us ov hs ks dr σ K
 |_,_,_=>False
end
section
variable {C:Cx} {σ:St} {m m':Mm} {ids:List Value} {a:Act}
theorem jG.app (e:List Value) {i:Nat} {hb:HB} (h:jG m ids i hb):jG m (ids++e) i hb:=by
 cases hb with
 |row=>obtain⟨b,vs,h1,h2,h3⟩:=h;exact⟨b,vs,gZ h1,h2,aC.app e _ h3⟩
 |Hy=>obtain⟨b,vs,h1,h2,h3,h4⟩:=h;exact⟨b,vs,gZ h1,h2,aC.app e _ h3,h4⟩
 |arr=>obtain⟨v,bC,h1,h2⟩:=h;exact⟨v,bC,gZ h1,h2⟩
 |far=>obtain⟨v,h1,h2⟩:=h;exact⟨v,gZ h1,h2⟩
 |vec=>obtain⟨b,bC,h1,h2⟩:=h;exact⟨b,bC,gZ h1,h2⟩
 |mp=>obtain⟨b,h1,h2⟩:=h;exact⟨b,gZ h1,h2⟩
 |p8=>obtain⟨v,vs,us,h1,h2⟩:=h;exact⟨v,vs,us,gZ h1,h2.1,h2.2,h2.3,h2.4,h2.5,fun k j e=>by obtain⟨q1,q2,q3,u,q4,q5,q6⟩:=h2.6 k j e;exact⟨q1,q2,q3,u,q4,gZ q5,q6⟩,h2.7⟩
 |NW=>obtain⟨v,vs,h1,h2⟩:=h;exact⟨v,vs,gZ h1,h2⟩
 |ext=>obtain⟨v,h1,h2⟩:=h;exact⟨v,gZ h1,h2⟩
 |gone=>trivial
theorem jG.named {i:Nat} {hb:HB} (h:jG m ids i hb) (ho:hb.own=true):∃ v,ids[i]?=some v:=by
 cases hb<;>simp only [HB.own]at ho<;>try (cases ho;done)
 case row=>obtain⟨b,vs,h1,_⟩:=h;exact⟨_,h1⟩
 case arr=>obtain⟨v,bC,h1,_⟩:=h;exact⟨_,h1⟩
 case vec=>obtain⟨b,bC,h1,_⟩:=h;exact⟨_,h1⟩
 case mp=>obtain⟨b,h1,_⟩:=h;exact⟨_,h1⟩
 case p8=>obtain⟨v,vs,us,h1,_⟩:=h;exact⟨_,h1⟩
 case ext=>obtain⟨v,h1,_⟩:=h;exact⟨_,h1⟩
theorem Q6 {e:List Value} {i:Nat} {hb:HB} {b:Nat} (h:jG m ids i hb) (hf:Fp (ids++e) i hb b):Fp ids i hb b:=by
 obtain⟨ho,v,h1,h2⟩:=hf;obtain⟨u,h3⟩:=h.named ho;rw [gZ h3]at h1;cases h1;exact⟨ho,_,h3,h2⟩
theorem JA (σ:St) (d:Option Tmp) (s:SV):(eX σ d s).heap=σ.heap/\(eX σ d s).nb=σ.nb/\(eX σ d s).n0=σ.n0/\(eX σ d s).gen=σ.gen/\(eX σ d s).kn=σ.kn:=by
 cases d<;>exact⟨rfl,rfl,rfl,rfl,rfl⟩
theorem U2 (σ:St) (d:Option Tmp) (π:Path) (s:SV):(Fz σ d π s).heap=σ.heap/\(Fz σ d π s).nb=σ.nb/\(Fz σ d π s).n0=σ.n0/\(Fz σ d π s).kn=σ.kn/\(Fz σ d π s).env=σ.env:=by
 cases d<;>exact⟨rfl,rfl,rfl,rfl,rfl⟩
theorem SatH.of {σ':St} (h:SatH C σ m ids) (h1:σ'.heap=σ.heap) (h2:σ'.nb=σ.nb) (h3:σ'.n0=σ.n0):SatH C σ' m ids :=
 ⟨by rw [h2];exact h.len,by rw [h1];exact h.heap,by rw [h1];exact h.low,h.S0,h.S,h.mod,h.oH,by rw [h3];exact h.n0,by rw [h3];exact h.pre⟩
theorem Sat.put (h:Sat C σ m ids a) {d:Option Tmp} (hd:o7 d C.N=true) (hf:fresh σ d=true) {s:SV} {v:Value} (hv:Den m ids s v):Sat C (eX σ d s) m ids (a.put d v) :=
 have q:=JA σ d s
 ⟨h.toSatH.of q.1 q.2.1 q.2.2.1,h.toSatF.put hd hf hv⟩
theorem Sat.putG (h:Sat C σ m ids a) {d:Option Tmp} (hd:o7 d C.N=true) (hf:fresh σ d=true) {π:Path} (hn:∀ t,d=some t->∀ g∈π,g.1≠t) {s:SV} {v:Value} (hv:Holds a π->Den m ids s v) (hv':¬ Holds a π->v=undef) :
   Sat C (eX (Fz σ d π s) d .un) m ids (a.put d v) :=
 have q:=JA (Fz σ d π s) d .un;have r:=U2 σ d π s
 ⟨h.toSatH.of (q.1.trans r.1) (q.2.1.trans r.2.1) (q.2.2.1.trans r.2.2.1),h.toSatF.putG hd hf hn hv hv'⟩
theorem Sat.newB {w':World} (h:Sat C σ m ids a) (he:Ext m.w w') (v:Value) (hb:HB) (hs:jG ⟨w',m.S⟩ (ids++[v]) σ.nb hb) (hf:∀ b,Fp (ids++[v]) σ.nb hb b->m.w.heap.size<=b) :
   Sat C (j3 σ hb) ⟨w',m.S⟩ (ids++[v]) a:=by
 have hle:m.le ⟨w',m.S⟩:=Ext.le (S:=m.S) he fun b hb=>(h.S b hb).1
 have h':=h.ext he;have old:∀ i hb0,lk σ.heap i=some hb0->jG ⟨w',m.S⟩ (ids++[v]) i hb0:=fun i hb0 hi=>(h'.heap.sat i hb0 hi).app [v]
 have vK:∀ i hb0 b,lk σ.heap i=some hb0->Fp (ids++[v]) i hb0 b->Fp ids i hb0 b:=fun i hb0 b hi hf=>Q6 (h'.heap.sat i hb0 hi) hf
 have oldL:∀ i hb0 b,lk σ.heap i=some hb0->Fp ids i hb0 b->b<m.w.heap.size:=fun i hb0 b hi hf=>rW (h.heap.sat i hb0 hi) hf
 refine⟨⟨by simp [j3,h.len],⟨fun i hb0 hi=>?_,fun i hb0 j hb1 hi hj hne b f1 f2=>?_,fun i hb0 b hi f1 f2=>?_⟩,fun i hb0 b hi f1=>?_,h'.S0,h'.S,h'.mod,h'.oH,h'.n0,fun i hi=>?_⟩,?_⟩
 ·simp only [j3,bG]at hi;split at hi
  ·rename_i e;subst e;cases hi;exact hs
  ·exact old i hb0 hi
 ·simp only [j3,bG]at hi hj;split at hi
  ·rename_i e;subst e;cases hi;split at hj
   ·exact absurd ‹_› hne
   ·have:=oldL j hb1 b hj (vK j hb1 b hj f2);have:=hf b f1;omega
  ·split at hj
   ·rename_i e;subst e;cases hj;have:=oldL i hb0 b hi (vK i hb0 b hi f1);have:=hf b f2;omega
   ·exact h.heap.sep i hb0 j hb1 hi hj hne b (vK i hb0 b hi f1) (vK j hb1 b hj f2)
 ·simp only [j3,bG]at hi;split at hi
  ·rename_i e;subst e;cases hi;have:=hf b f1;have:=(h.S b f2).1;omega
  ·exact h.heap.vG i hb0 b hi (vK i hb0 b hi f1) f2
 ·simp only [j3,bG]at hi;split at hi
  ·rename_i e;subst e;cases hi;have:=hf b f1;have:=h.mod.size;exact .inr au
  ·exact h.low i hb0 b hi (vK i hb0 b hi f1)
 ·have:ids[i]?=C.Ec[i]?:=h.pre i hi;rw [<- this]
  have hlt:i<ids.length:=by
    by_cases hl:i<ids.length
    ·exact hl
    ·rw [List.getElem?_eq_none au]at this
     have:=List.getElem?_eq_none_iff.1 this.symm;have:=h.n0;simp only [j3]at hi;omega
  rw [List.getElem?_append_left hlt]
 ·exact(h'.toSatF.app [v]).of rfl rfl rfl
theorem Sat.updG {w':World} {b i:Nat} {hb hb':HB} (h:Sat C σ m ids a) (hi:lk σ.heap i=some hb) (hu:Bu b m.w w') (zU:Fp ids i hb b) (hs:jG ⟨w',m.S⟩ ids i hb') (hf:∀ b',Fp ids i hb' b'->Fp ids i hb b') :
   Sat C (setH σ i hb') ⟨w',m.S⟩ ids a:=by
 have ED:¬ m.S b:=h.heap.vG i hb b hi zU;have hle:m.le ⟨w',m.S⟩:=⟨fun k hk=>⟨hk,hu.block k fun e=>ED (e▸hk)⟩,Nat.le_of_eq hu.size.symm⟩
 refine⟨⟨h.len,⟨fun j hb0 hj=>?_,fun j hb0 k hb1 hj hk hne c f1 f2=>?_,fun j hb0 c hj f1 f2=>?_⟩,fun j hb0 c hj f1=>?_,h.S0,fun c hc=>⟨by rw [hu.size];exact(h.S c hc).1,(h.S c hc).2⟩,?_,h.oH.le hle,h.n0,h.pre⟩,(h.toSatF.le hle).of rfl rfl rfl⟩
 ·simp only [setH,bG]at hj;split at hj
  ·rename_i e;subst e;cases hj;exact hs
  ·rename_i e;exact(h.heap.sat j hb0 hj).le hle fun c hc=>hu.block c fun e1=>h.heap.sep j hb0 i hb hj hi (Ne.symm e) c hc (e1▸zU)
 ·simp only [setH,bG]at hj hk;split at hj
  ·rename_i e;subst e;cases hj;split at hk
   ·exact absurd ‹_› hne
   ·exact h.heap.sep _ _ _ _ hk hi (Ne.symm hne) c f2 (hf c f1)
  ·split at hk
   ·rename_i e;subst e;cases hk;exact h.heap.sep _ _ _ _ hj hi hne c f1 (hf c f2)
   ·exact h.heap.sep j hb0 k hb1 hj hk hne c f1 f2
 ·simp only [setH,bG]at hj;split at hj
  ·rename_i e;subst e;cases hj;exact h.heap.vG _ _ c hi (hf c f1) f2
  ·exact h.heap.vG j hb0 c hj f1 f2
 ·simp only [setH,bG]at hj;split at hj
  ·rename_i e;subst e;cases hj;exact h.low _ _ _ hi (hf c f1)
  ·exact h.low j hb0 c hj f1
 ·refine⟨hu.os.trans h.mod.os,hu.tape.trans h.mod.tape,hu.output.trans h.mod.output,Nat.le_trans h.mod.size (Nat.le_of_eq hu.size.symm),fun k hk hn=>(hu.block k fun e=>?_).trans (h.mod.block k hk hn)⟩
  subst e;rcases h.low i hb k hi zU with h1|h1
  ·exact hn h1
  ·omega
theorem Sat.updB {w':World} {b i:Nat} {hb hb':HB} (h:Sat C σ m ids a) (hi:lk σ.heap i=some hb) (hu:Bu b m.w w') (zU:Fp ids i hb b) (hs:jG ⟨w',m.S⟩ ids i hb') (hf:∀ b',Fp ids i hb' b'->b'=b) :
   Sat C (setH σ i hb') ⟨w',m.S⟩ ids a:=h.updG hi hu zU hs fun b' hf'=>(hf b' hf')▸zU
theorem Sat.frz1 {T:TypeId} {z:Option Bool} {c:Nat} {l:Li c} {i:Nat} (h:Sat C σ m ids a) (hi:lk σ.heap i=some (.arr T z c l)) :
   Sat C (setH σ i (.far z c l)) ⟨m.w,fun b=>m.S b\/Fp ids i (.arr T z c l) b⟩ ids a:=by
 have hle:m.le ⟨m.w,fun b=>m.S b\/Fp ids i (.arr T z c l) b⟩:=⟨fun k hk=>⟨Or.inl hk,rfl⟩,Nat.le_refl _⟩
 refine⟨⟨h.len,⟨fun j hb0 hj=>?_,fun j hb0 k hb1 hj hk hne b f1 f2=>?_,fun j hb0 b hj f1 f2=>?_⟩,fun j hb0 b hj f1=>?_,fun b hb=>.inl (h.S0 b hb),fun b hb=>?_,h.mod,h.oH.le hle,h.n0,h.pre⟩,(h.toSatF.le hle).of rfl rfl rfl⟩
 ·simp only [setH,bG]at hj;split at hj
  ·rename_i e;subst e;cases hj;obtain⟨v,bC,h1,h2,h3,h4,h5⟩:=h.heap.sat _ _ hi;exact⟨v,h1,bC,h2.reads,h3.le hle,fun _ b hb=>.inr ⟨rfl,v,h1,qj hb⟩,h4,h5⟩
  ·rename_i e;exact(h.heap.sat j hb0 hj).le hle fun _ _=>rfl
 ·simp only [setH,bG]at hj hk;split at hj
  ·rename_i e;subst e;cases hj;exact absurd f1.1 (by simp [HB.own])
  ·split at hk
   ·rename_i e;subst e;cases hk;exact absurd f2.1 (by simp [HB.own])
   ·exact h.heap.sep j hb0 k hb1 hj hk hne b f1 f2
 ·simp only [setH,bG]at hj;split at hj
  ·rename_i e;subst e;cases hj;exact absurd f1.1 (by simp [HB.own])
  ·rename_i e;rcases f2 with f2|f2
   ·exact h.heap.vG j hb0 b hj f1 f2
   ·exact h.heap.sep j hb0 i _ hj hi (Ne.symm e) b f1 f2
 ·simp only [setH,bG]at hj;split at hj
  ·rename_i e;subst e;cases hj;exact absurd f1.1 (by simp [HB.own])
  ·exact h.low j hb0 b hj f1
 ·rcases hb with hb|hb
  ·exact h.S b hb
  ·exact⟨(rW (m:=m) (h.heap.sat i _ hi) hb:b<m.w.heap.size),(h.low i _ b hi hb).elim (fun q=>.inr (.inl q)) (fun q=>.inr (.inr q))⟩
theorem Sat.frz2 {T:TypeId} {cs:List SV} {i:Nat} (h:Sat C σ m ids a) (hi:lk σ.heap i=some (.row T cs)) :
   Sat C (setH σ i (.Hy T cs)) ⟨m.w,fun b=>m.S b\/Fp ids i (.row T cs) b⟩ ids a:=by
 have hle:m.le ⟨m.w,fun b=>m.S b\/Fp ids i (.row T cs) b⟩:=⟨fun k hk=>⟨Or.inl hk,rfl⟩,Nat.le_refl _⟩
 refine⟨⟨h.len,⟨fun j hb0 hj=>?_,fun j hb0 k hb1 hj hk hne b f1 f2=>?_,fun j hb0 b hj f1 f2=>?_⟩,fun j hb0 b hj f1=>?_,fun b hb=>.inl (h.S0 b hb),fun b hb=>?_,h.mod,h.oH.le hle,h.n0,h.pre⟩,(h.toSatF.le hle).of rfl rfl rfl⟩
 ·simp only [setH,bG]at hj;split at hj
  ·rename_i e;subst e;cases hj;obtain⟨b,vs,h1,h2,h3⟩:=h.heap.sat _ _ hi;exact⟨b,vs,h1,h2,aC.le hle _ h3,.inr ⟨rfl,_,h1,rfl⟩⟩
  ·rename_i e;exact(h.heap.sat j hb0 hj).le hle fun _ _=>rfl
 ·simp only [setH,bG]at hj hk;split at hj
  ·rename_i e;subst e;cases hj;exact absurd f1.1 (by simp [HB.own])
  ·split at hk
   ·rename_i e;subst e;cases hk;exact absurd f2.1 (by simp [HB.own])
   ·exact h.heap.sep j hb0 k hb1 hj hk hne b f1 f2
 ·simp only [setH,bG]at hj;split at hj
  ·rename_i e;subst e;cases hj;exact absurd f1.1 (by simp [HB.own])
  ·rename_i e;rcases f2 with f2|f2
   ·exact h.heap.vG j hb0 b hj f1 f2
   ·exact h.heap.sep j hb0 i _ hj hi (Ne.symm e) b f1 f2
 ·simp only [setH,bG]at hj;split at hj
  ·rename_i e;subst e;cases hj;exact absurd f1.1 (by simp [HB.own])
  ·exact h.low j hb0 b hj f1
 ·rcases hb with hb|hb
  ·exact h.S b hb
  ·exact⟨(rW (m:=m) (h.heap.sat i _ hi) hb:b<m.w.heap.size),(h.low i _ b hi hb).elim (fun q=>.inr (.inl q)) (fun q=>.inr (.inr q))⟩
theorem Sat.frz3 {T T' c' c:Nat} {ls:Li c'} {i:Nat} (h:Sat C σ m ids a) (hi:lk σ.heap i=some (.p8 T T' c' c ls none)) :
   Sat C (setH σ i (.NW none c' ls)) ⟨m.w,fun b=>m.S b\/Fp ids i (.p8 T T' c' c ls none) b⟩ ids a:=by
 have hle:m.le ⟨m.w,fun b=>m.S b\/Fp ids i (.p8 T T' c' c ls none) b⟩:=⟨fun k hk=>⟨Or.inl hk,rfl⟩,Nat.le_refl _⟩
 refine⟨⟨h.len,⟨fun j hb0 hj=>?_,fun j hb0 k hb1 hj hk hne b f1 f2=>?_,fun j hb0 b hj f1 f2=>?_⟩,fun j hb0 b hj f1=>?_,fun b hb=>.inl (h.S0 b hb),fun b hb=>?_,h.mod,h.oH.le hle,h.n0,h.pre⟩,(h.toSatF.le hle).of rfl rfl rfl⟩
 ·simp only [setH,bG]at hj;split at hj
  ·rename_i e;subst e;cases hj;obtain⟨v,vs,us,h1,h2⟩:=h.heap.sat _ _ hi;have hul:us.length=ls.length:=by have:=h2.out.1;omega
   have e1:(us.map fun u=>[u]).flatten=us:=by clear hul h2;induction us with
     |nil=>rfl
     |cons u r ih=>simp only [List.map_cons,List.flatten_cons,List.singleton_append,ih]
   refine⟨v,vs,h1,us.map fun u=>[u],?_,⟨by simp [hul],fun q hq=>?_,fun r x hr=>?_⟩,fun _ b hb=>.inr ⟨rfl,_,h1,v,by simp,hb⟩,trivial,h2.B⟩
   ·rw [e1,h2.K1];exact h2.out.reads
   ·obtain⟨u,_,rfl⟩:=List.mem_map.1 hq;rw [h2.K1];rfl
   ·obtain⟨u,q1,q2,l,bC,q3,q4,q5,q6⟩:=h2.row r x hr (fun _ _ e=>by cases e)
    refine⟨[u],by rw [List.getElem?_map,q2];rfl,(nI (ids:=ids) c' x q3).2 ?_⟩
    rw [aC];refine⟨u,[],rfl,?_,by rw [aC]⟩
    rw [Den];exact⟨bC,q4.reads,q5.le hle,fun _ b hb=>.inr ⟨rfl,_,h1,u,by simp [List.mem_of_getElem? q1],hb⟩,trivial,q6⟩
  ·rename_i e;exact(h.heap.sat j hb0 hj).le hle fun _ _=>rfl
 ·simp only [setH,bG]at hj hk;split at hj
  ·rename_i e;subst e;cases hj;exact absurd f1.1 (by simp [HB.own])
  ·split at hk
   ·rename_i e;subst e;cases hk;exact absurd f2.1 (by simp [HB.own])
   ·exact h.heap.sep j hb0 k hb1 hj hk hne b f1 f2
 ·simp only [setH,bG]at hj;split at hj
  ·rename_i e;subst e;cases hj;exact absurd f1.1 (by simp [HB.own])
  ·rename_i e;rcases f2 with f2|f2
   ·exact h.heap.vG j hb0 b hj f1 f2
   ·exact h.heap.sep j hb0 i _ hj hi (Ne.symm e) b f1 f2
 ·simp only [setH,bG]at hj;split at hj
  ·rename_i e;subst e;cases hj;exact absurd f1.1 (by simp [HB.own])
  ·exact h.low j hb0 b hj f1
 ·rcases hb with hb|hb
  ·exact h.S b hb
  ·exact⟨(rW (m:=m) (h.heap.sat i _ hi) hb:b<m.w.heap.size),(h.low i _ b hi hb).elim (fun q=>.inr (.inl q)) (fun q=>.inr (.inr q))⟩
theorem ql:∀ {l:List Nat} {σ:St},(SX.oZ σ l).gen=σ.gen/\(SX.oZ σ l).kn=σ.kn
 |[],σ=>⟨rfl,rfl⟩
 |i::r,σ=>by
   rw [SX.oZ];split
   ·exact ql (l:=r)
   ·exact ql (l:=r)
   ·exact ql (l:=r)
   ·exact ql (l:=r)
theorem Sat.oZ:∀ (ns:List Nat) {σ:St} {m:Mm},Sat C σ m ids a->∃ S',m.le ⟨m.w,S'⟩/\Sat C (SX.oZ σ ns) ⟨m.w,S'⟩ ids a
 |[],σ,m,h=>⟨m.S,Mm.le.refl m,h⟩
 |i::r,σ,m,h=>by
   rw [SX.oZ];split
   ·rename_i T z c l hi;obtain⟨S',h1,h2⟩:=Sat.oZ r (h.frz1 hi);exact⟨S',⟨fun k hk=>h1.S k (Or.inl hk),h1.size⟩,h2⟩
   ·rename_i T cs hi;obtain⟨S',h1,h2⟩:=Sat.oZ r (h.frz2 hi);exact⟨S',⟨fun k hk=>h1.S k (Or.inl hk),h1.size⟩,h2⟩
   ·rename_i hi;obtain⟨S',h1,h2⟩:=Sat.oZ r (h.frz3 hi);exact⟨S',⟨fun k hk=>h1.S k (Or.inl hk),h1.size⟩,h2⟩
   ·exact Sat.oZ r h
theorem iV {m':Mm} {f:SV->SV} (hf:∀ s v,Den m ids s v->Den m' ids (f s) v):∀ {l:List SV} {us:List Value},aC m ids l us->aC m' ids (qP f l) us
 |[],_,hd=>by rw [qP];rw [aC]at hd ⊢;exact hd
 |s::r,us,hd=>by
   rw [qP];rw [aC]at hd ⊢;obtain⟨u,us',h1,h2,h3⟩:=hd;exact⟨u,us',h1,hf s u h2,iV hf h3⟩
theorem KV (h:Sat C σ m ids a):∀ (n:Nat) (s:SV) (v:Value),Den m ids s v->Den m ids (WY σ n s) v
 |0,_,_,hd=>hd
 |n+1,s,v,hd=>by
   have ih:=KV h n;unfold WY;split
   ·rename_i i;split
    ·rename_i z c l hi;rw [Den]at hd;obtain⟨u,h1,h2⟩:=h.heap.sat i _ hi;rw [hd.1]at h1;cases h1;rw [Den];exact h2
    ·exact hd
   ·rename_i i;split
    ·rename_i z c l hi;rw [Den]at hd;obtain⟨us,h0,_⟩:=hd;obtain⟨u,vs,h1,h2⟩:=h.heap.sat i _ hi;obtain⟨rfl,_⟩:=xY h0 h1;rw [Den];exact h2
    ·exact hd
   ·rename_i i o;split
    ·rename_i T cs hi;rw [Den]at hd;obtain⟨b,h1,rfl⟩:=hd;obtain⟨b',vs,h2,h3,h4,h5⟩:=h.heap.sat i _ hi;rw [h1]at h2;cases h2;rw [Den];exact⟨b,0,vs,by rw [Nat.zero_add],h5,h3.at,iV ih h4⟩
    ·exact hd
   ·rw [Den]at hd ⊢;obtain⟨us,h1,h2⟩:=hd;exact⟨us,h1,iV ih h2⟩
   ·rw [Den]at hd ⊢;obtain⟨us,h1,h2⟩:=hd;exact⟨us,h1,iV ih h2⟩
   ·rw [Den]at hd ⊢;obtain⟨b,q,us,h1,h0,h2,h3,h4⟩:=hd;exact⟨b,q,us,h1,h0,h2,h3,iV ih h4⟩
   ·rw [Den]at hd ⊢;obtain⟨us,vs,h1,h2,h3⟩:=hd;exact⟨us,vs,h1,iV ih h2,iV ih h3⟩
   ·rw [Den]at hd ⊢;obtain⟨u,h1,h2⟩:=hd;exact⟨u,h1,ih _ _ h2⟩
   ·exact hd
theorem BI (h:Sat C σ m ids a) {s:SV} {v:Value} (hd:Den m ids s v):Den m ids (vw σ s) v:=KV h 6 s v hd
theorem KU (h:Sat C σ m ids a) {l:List SV} {us:List Value} (hd:aC m ids l us):aC m ids (vwL σ l) us:=iV (KV h 6) hd
theorem Mr (h:Sat C σ m ids a):m.le ⟨m.w,fun b=>m.S b\/HT ids σ.heap b⟩:=⟨fun _ hb=>⟨.inl hb,rfl⟩,Nat.le_refl _⟩
theorem RN (h:Sat C σ m ids a):∀ (n:Nat) (s:SV) (v:Value),Den m ids s v->Den ⟨m.w,fun b=>m.S b\/HT ids σ.heap b⟩ ids (RO σ n s) v
 |0,s,_,hd=>Den.le (Mr h) s hd
 |n+1,s,v,hd=>by
   have hle:=Mr h;have ih:=RN h n;unfold RO;split
   ·rename_i i;split
    ·rename_i T z c l hi;rw [Den]at hd;obtain⟨u,bC,h1,h2,h3,h4,h5⟩:=h.heap.sat i _ hi;have h0:=hd.1;rw [h0]at h1;cases h1;rw [Den];exact⟨bC,h2.reads,h3.le hle,fun _ b hb=>.inr ⟨i,_,hi,rfl,_,h0,qj hb⟩,h4,h5⟩
    ·rename_i z c l hi;rw [Den]at hd;obtain⟨u,h1,h2⟩:=h.heap.sat i _ hi;rw [hd.1]at h1;cases h1;rw [Den];exact h2.le hle
    ·exact Den.le hle _ hd
   ·rename_i i o;split
    ·rename_i T cs hi;rw [Den]at hd;obtain⟨b,h1,rfl⟩:=hd;obtain⟨b',vs,h2,h3,h4⟩:=h.heap.sat i _ hi;rw [h1]at h2;cases h2;rw [Den];exact⟨b,0,vs,by rw [Nat.zero_add],.inr ⟨i,_,hi,rfl,_,h1,rfl⟩,h3.at,iV ih h4⟩
    ·rename_i T cs hi;rw [Den]at hd;obtain⟨b,h1,rfl⟩:=hd;obtain⟨b',vs,h2,h3,h4,h5⟩:=h.heap.sat i _ hi;rw [h1]at h2;cases h2;rw [Den];exact⟨b,0,vs,by rw [Nat.zero_add],.inl h5,h3.at,iV ih h4⟩
    ·exact Den.le hle _ hd
   ·rw [Den]at hd ⊢;obtain⟨us,h1,h2⟩:=hd;exact⟨us,h1,iV ih h2⟩
   ·rw [Den]at hd ⊢;obtain⟨us,h1,h2⟩:=hd;exact⟨us,h1,iV ih h2⟩
   ·rw [Den]at hd ⊢;obtain⟨us,vs,h1,h2,h3⟩:=hd;exact⟨us,vs,h1,iV ih h2,iV ih h3⟩
   ·exact Den.le hle _ hd
theorem jG.re {aO:List Value} {k:Nat} {hb:HB} (hden:∀ s y,Den m ids s y->Den m aO s y) (hg:aO[k]?=ids[k]?) (hg1:∀ (j:Nat) (u:Value),ids[j]?=some u->u.oneCell'=true->aO[j]?=some u) (h:jG m ids k hb):jG m aO k hb:=by
 have hL:∀ (cs:List SV) (us:List Value),aC m ids cs us->aC m aO cs us:=by
   intro cs
   induction cs with
   |nil=>intro us h;rw [aC]at h ⊢;exact h
   |cons s r ih=>intro us h;rw [aC]at h ⊢;obtain⟨u,us',h1,h2,h3⟩:=h;exact⟨u,us',h1,hden s u h2,ih us' h3⟩
 cases hb with
 |row=>obtain⟨b,vs,h1,h2,h3⟩:=h;exact⟨b,vs,hg.trans h1,h2,hL _ _ h3⟩
 |Hy=>obtain⟨b,vs,h1,h2,h3,h4⟩:=h;exact⟨b,vs,hg.trans h1,h2,hL _ _ h3,h4⟩
 |arr=>obtain⟨v,bC,h1,h2⟩:=h;exact⟨v,bC,hg.trans h1,h2⟩
 |far=>obtain⟨v,h1,h2⟩:=h;exact⟨v,hg.trans h1,h2⟩
 |vec=>obtain⟨b,bC,h1,h2⟩:=h;exact⟨b,bC,hg.trans h1,h2⟩
 |mp=>obtain⟨b,h1,h2⟩:=h;exact⟨b,hg.trans h1,h2⟩
 |p8=>obtain⟨v,vs,us,h1,h2⟩:=h;exact⟨v,vs,us,hg.trans h1,h2.1,h2.2,h2.3,h2.4,h2.5,fun k j e=>by obtain⟨q1,q2,q3,u,q4,q5,q6⟩:=h2.6 k j e;exact⟨q1,q2,q3,u,q4,hg1 j u q5 q6,q6⟩,h2.7⟩
 |NW=>obtain⟨v,vs,h1,h2⟩:=h;exact⟨v,vs,hg.trans h1,h2⟩
 |ext=>obtain⟨v,h1,h2⟩:=h;exact⟨v,hg.trans h1,h2⟩
 |gone=>trivial
theorem Sat.re2 (h:Sat C σ m ids a) {i j:Nat} {σ':St} {aO:List Value} {h1 h2:HB} (hi0:σ.n0<=i) (hlen:aO.length=σ'.nb) (hden:∀ s y,Den m ids s y->Den m aO s y)
   (hget:∀ k:Nat,k≠i->k<ids.length->aO[k]?=ids[k]?) (hg1:∀ (j:Nat) (u:Value),ids[j]?=some u->u.oneCell'=true->aO[j]?=some u)
   (hl:∀ k hb,lk σ'.heap k=some hb->(k=i/\hb=h1)\/(k=j/\hb=h2)\/(k≠i/\k≠j/\lk σ.heap k=some hb)) (hs1:jG m aO i h1) (hs2:jG m aO j h2)
   (hd:∀ b,Fp aO i h1 b->¬ Fp aO j h2 b) (hP:∀ b,Fp aO i h1 b\/Fp aO j h2 b->∃ k hb,(k=i\/k=j)/\lk σ.heap k=some hb/\Fp ids k hb b)
   (he:σ'.env=σ.env) (hg:σ'.gen=σ.gen) (hk:σ'.kn=σ.kn) (hn:σ'.n0=σ.n0):Sat C σ' m aO a:=by
 have lt:∀ (k:Nat) (v:Value),ids[k]?=some v->k<ids.length:=fun k v h=>(List.getElem?_eq_some_iff.1 h).1
 have sat:∀ k hb,k≠i->lk σ.heap k=some hb->jG m aO k hb:=fun k hb hki hkl=>by
   by_cases hgn:k<ids.length
   ·exact jG.re hden (hget k hki hgn) hg1 (h.heap.sat k hb hkl)
   ·have:=h.heap.sat k hb hkl
    cases hb with
    |row=>obtain⟨_,_,q,_⟩:=this;exact absurd (lt _ _ q) hgn
    |Hy=>obtain⟨_,_,q,_⟩:=this;exact absurd (lt _ _ q) hgn
    |arr=>obtain⟨_,_,q,_⟩:=this;exact absurd (lt _ _ q) hgn
    |far=>obtain⟨_,q,_⟩:=this;exact absurd (lt _ _ q) hgn
    |vec=>obtain⟨_,_,q,_⟩:=this;exact absurd (lt _ _ q) hgn
    |mp=>obtain⟨_,q,_⟩:=this;exact absurd (lt _ _ q) hgn
    |p8=>obtain⟨_,_,_,q,_⟩:=this;exact absurd (lt _ _ q) hgn
    |NW=>obtain⟨_,_,q,_⟩:=this;exact absurd (lt _ _ q) hgn
    |ext=>obtain⟨_,q,_⟩:=this;exact absurd (lt _ _ q) hgn
    |gone=>trivial
 have old:∀ k hb b,k≠i->lk σ.heap k=some hb->Fp aO k hb b->Fp ids k hb b:=fun k hb b hki hkl ⟨h1,v,h2,h3⟩=>by
   obtain⟨u,hu⟩:=(h.heap.sat k hb hkl).named h1;rw [hget k hki (lt _ _ hu)]at h2;exact⟨h1,v,h2,h3⟩
 have new:∀ k hb b,k≠i->k≠j->lk σ.heap k=some hb->(Fp aO i h1 b\/Fp aO j h2 b)->¬ Fp aO k hb b:=fun k hb b hki hkj hkl hf f2=>by
   obtain⟨q,hq,hor,EB,hqf⟩:=hP b hf;exact h.heap.sep q hq k hb EB hkl (fun e=>by subst e;exact hor.elim hki hkj) b hqf (old k hb b hki hkl f2)
 refine⟨⟨hlen,⟨fun k hb hkl=>?_,fun k hb k' hb' hkl hkl' hne b f1 f2=>?_,fun k hb b hkl f1 f2=>?_⟩,fun k hb b hkl f1=>?_,h.S0,h.S,h.mod,h.oH,by rw [hn];exact h.n0,fun k hk0=>?_⟩,?_⟩
 ·rcases hl k hb hkl with ⟨rfl,rfl⟩|⟨rfl,rfl⟩|⟨q1,q2,q3⟩
  ·exact hs1
  ·exact hs2
  ·exact sat k hb q1 q3
 ·rcases hl k hb hkl with ⟨rfl,rfl⟩|⟨rfl,rfl⟩|⟨q1,q2,q3⟩<;>rcases hl k' hb' hkl' with ⟨rfl,rfl⟩|⟨rfl,rfl⟩|⟨q4,q5,q6⟩
  ·exact hne rfl
  ·exact hd b f1 f2
  ·exact new k' hb' b q4 q5 q6 (.inl f1) f2
  ·exact hd b f2 f1
  ·exact hne rfl
  ·exact new k' hb' b q4 q5 q6 (.inr f1) f2
  ·exact new k hb b q1 q2 q3 (.inl f2) f1
  ·exact new k hb b q1 q2 q3 (.inr f2) f1
  ·exact h.heap.sep k hb k' hb' q3 q6 hne b (old k hb b q1 q3 f1) (old k' hb' b q4 q6 f2)
 ·rcases hl k hb hkl with ⟨rfl,rfl⟩|⟨rfl,rfl⟩|⟨q1,q2,q3⟩
  ·obtain⟨q,hq,_,EB,hqf⟩:=hP b (.inl f1);exact h.heap.vG q hq b EB hqf f2
  ·obtain⟨q,hq,_,EB,hqf⟩:=hP b (.inr f1);exact h.heap.vG q hq b EB hqf f2
  ·exact h.heap.vG k hb b q3 (old k hb b q1 q3 f1) f2
 ·rcases hl k hb hkl with ⟨rfl,rfl⟩|⟨rfl,rfl⟩|⟨q1,q2,q3⟩
  ·obtain⟨q,hq,_,EB,hqf⟩:=hP b (.inl f1);exact h.low q hq b EB hqf
  ·obtain⟨q,hq,_,EB,hqf⟩:=hP b (.inr f1);exact h.low q hq b EB hqf
  ·exact h.low k hb b q3 (old k hb b q1 q3 f1)
 ·rw [hn]at hk0;have hp:ids[k]?=C.Ec[k]?:=h.pre k hk0;rw [<- hp]
  have hlt:k<ids.length:=by
    by_cases hlt:k<ids.length
    ·exact hlt
    ·rw [List.getElem?_eq_none au]at hp
     have:=List.getElem?_eq_none_iff.1 hp.symm;have:=h.n0;omega
  exact hget k au hlt
 ·exact⟨h.size,h.defers,by rw [he];exact fun t s hl=>⟨(h.env t s hl).1,hden _ _ (h.env t s hl).2⟩,by rw [hg];exact fun t π s hl=>⟨(h.gen t π s hl).1,fun hh=>hden _ _ ((h.gen t π s hl).2.1 hh),(h.gen t π s hl).2.2⟩,by rw [hk];exact h.kn⟩
theorem SL {i:Nat} {v t:Value} {vs:List Value} (hi:ids[i]?=some (.tuple (v::vs).toArray)):(∀ k:Nat,k≠i->(ids.set i t)[k]?=ids[k]?)/\(∀ (j:Nat) (u:Value),ids[j]?=some u->u.oneCell'=true->(ids.set i t)[j]?=some u)/\(ids.set i t)[i]?=some t :=
 ⟨fun k hk=>List.getElem?_set_ne (Ne.symm hk),fun j u hj h1=>uT hi hj fun a e=>(by rw [e]at h1;cases h1),List.getElem?_set_self (List.getElem?_eq_some_iff.1 hi).1⟩
theorem Sr {vs:List Value} {k r:Nat} {u v w:Value} (hk:k<vs.length) (hw:(v::vs.set k u)[r]?=some w):(r=k+1/\w=u)\/(r≠k+1/\(v::vs)[r]?=some w):=by
 cases r with
 |zero=>exact .inr ⟨au,hw⟩
 |succ r =>
   by_cases e:k=r
   ·subst e;rw [List.getElem?_cons_succ,List.getElem?_set_self hk]at hw;cases hw;exact .inl ⟨rfl,rfl⟩
   ·rw [List.getElem?_cons_succ,List.getElem?_set_ne e]at hw;exact .inr ⟨au,by rw [List.getElem?_cons_succ];exact hw⟩
theorem uV {i:Nat} {v:Value} {vs:List Value} {T T' c' c:Nat} {ls:Li c'} {h:Option (Int×Nat)} {b:Nat} (hi:ids[i]?=some (.tuple (v::vs).toArray)):Fp ids i (.p8 T T' c' c ls h) b↔∃ (r:Nat) (u:Value),(v::vs)[r]?=some u/\jI u=some b:=by
 constructor
 ·rintro⟨_,w,h1,h2⟩;rw [hi]at h1;cases h1;obtain⟨u,hu,hb⟩:=h2;obtain⟨r,hr,rfl⟩:=List.getElem_of_mem hu;exact⟨r,_,bZ (by simpa using hr),hb⟩
 ·rintro⟨r,u,h1,h2⟩;exact⟨rfl,_,hi,u,by simpa using List.mem_of_getElem? h1,h2⟩
theorem Sat.zF (h:Sat C σ m ids a) (i:Nat):∃ aO,Sat C (SX.zF σ i) m aO a/\(∀ s y,Den m ids s y->Den m aO s y)/\(SX.zF σ i).env=σ.env/\(SX.zF σ i).gen=σ.gen/\(SX.zF σ i).kn=σ.kn/\(SX.zF σ i).nb=σ.nb/\(SX.zF σ i).n0=σ.n0:=by
 unfold SX.zF;split
 ·rename_i T T' c' c ls k j hn hi;split
  ·rename_i e z c2 l2 hj;split
   ·rename_i x he hc hx;have he:=Nat.eq_of_beq_eq_true he;subst he;have hc:=Nat.eq_of_beq_eq_true hc;subst hc;have hES:=RW_ok hx;obtain⟨v,vs,us,q1,q2⟩:=h.heap.sat i _ hi;obtain⟨u,bC,q3,q4,q5,_,q6⟩:=h.heap.sat j _ hj;obtain⟨k0,kl,kv,u',ku,kj,_⟩:=q2.hole k j rfl;rw [q3]at kj;cases kj;have hij:i≠j:=fun e=>by subst e;rw [hi]at hj;cases hj
    have hvl:k.toNat<vs.length:=by rw [q2.len];exact kl
    obtain⟨g1,g2,g3⟩:=SL (t:=.tuple (v::vs.set k.toNat u).toArray) q1;have gu:∀ (r:Nat) (w:Value),(v::vs.set k.toNat u)[r]?=some w->(r=k.toNat+1/\w=u)\/(r≠k.toNat+1/\(v::vs)[r]?=some w):=fun r w hw=>Sr hvl hw
    have fpj:∀ b,jI u=some b->Fp ids j (.arr e z c2 l2) b:=fun b hb=>⟨rfl,u,q3,qj hb⟩
    have fpi:∀ (r:Nat) (w:Value) (b:Nat),(v::vs)[r]?=some w->jI w=some b->Fp ids i (.p8 T e c' c2 ls (some (k,j))) b:=fun r w b hw hb=>(uV q1).2 ⟨r,w,hw,hb⟩
    refine⟨ids.set i (.tuple (v::vs.set k.toNat u).toArray),h.re2 (i:=i) (j:=j) (h1:=.p8 T e c' c2 (ls.set k.toNat x) none) (h2:=.gone) (Nat.le_of_ble_eq_true hn) (by simp [setH,h.len]) (fun s y=>Den.set q1 s) (fun k hk _=>g1 k hk) g2 (fun r hb hl=>?_) ?_ trivial (fun b _ f=>by cases f.1) (fun b hf=>?_) rfl rfl rfl rfl,fun s y=>Den.set q1 s,rfl,rfl,rfl,rfl,rfl⟩
    ·simp only [setH,bG]at hl;split at hl
     ·rename_i e;cases hl;exact .inl ⟨e.symm,rfl⟩
     ·rename_i e;split at hl
      ·rename_i e2;cases hl;exact .inr (.inl ⟨e2.symm,rfl⟩)
      ·rename_i e2;exact .inr (.inr ⟨Ne.symm e,Ne.symm e2,hl⟩)
    ·refine⟨v,vs.set k.toNat u,us,g3,by rw [List.length_set];exact q2.out,by simp [q2.len],q2.K1,by rw [List.length_set];exact q2.B,fun r y hr _=>?_,fun _ _ e=>(by cases e),fun r s w w' b hr hs hne hb hb'=>?_⟩
     ·by_cases er:k.toNat=r
      ·subst er;rw [List.getElem?_set_self kl]at hr;cases hr;exact⟨u,by rw [List.getElem?_set_self hvl],ku,l2,bC,hES,q4,q5,q6⟩
      ·rw [List.getElem?_set_ne er]at hr;obtain⟨w,w1,w2,w3⟩:=q2.row r y hr (fun k' j' e'=>by cases e';exact Ne.symm er)
       exact⟨w,by rw [List.getElem?_set_ne er];exact w1,w2,w3⟩
     ·rcases gu r w hr with ⟨e1,rfl⟩|⟨e1,hr2⟩<;>rcases gu s w' hs with ⟨e2,rfl⟩|⟨e2,hs2⟩
      ·omega
      ·exact h.heap.sep i _ j _ hi hj hij b (fpi s w' b hs2 hb') (fpj b hb)
      ·exact h.heap.sep i _ j _ hi hj hij b (fpi r w b hr2 hb) (fpj b hb')
      ·exact q2.sep r s w w' b hr2 hs2 hne hb hb'
    ·rcases hf with hf|hf
     ·obtain⟨r,w,hw,hb⟩:=(uV g3).1 hf;rcases gu r w hw with ⟨_,rfl⟩|⟨_,hw⟩
      ·exact⟨j,_,.inr rfl,hj,fpj b hb⟩
      ·exact⟨i,_,.inl rfl,hi,fpi r w b hw hb⟩
     ·cases hf.1
   ·exact⟨ids,h,fun _ _ h=>h,rfl,rfl,rfl,rfl,rfl⟩
  ·exact⟨ids,h,fun _ _ h=>h,rfl,rfl,rfl,rfl,rfl⟩
 ·exact⟨ids,h,fun _ _ h=>h,rfl,rfl,rfl,rfl,rfl⟩
theorem Sat.lend (h:Sat C σ m ids a) {i j:Nat} {n:Int} {T1 T2 c' c c2:Nat} {ls:Li c'} {l:Li c2} (hj:j=σ.nb) (hn0:σ.n0<=i) (hi:lk σ.heap i=some (.p8 T1 T2 c' c ls none)) (h0:0<=n) (hlt:n.toNat<ls.length) (hes:ES c' (ls.getD n.toNat (rE c'))=some [.aW none c2 l]) :
   ∃ aO u v vs us,ids[i]?=some (.tuple (v::vs).toArray)/\gU m.w 0 T1 1 v ls.length us/\us[n.toNat]?=some u/\Den m aO (.bT j) u/\Sat C (j3 (setH σ i (.p8 T1 T2 c' c ls (some (n,j)))) (.arr T2 none c2 l)) m aO a:=by
 subst hj;obtain⟨v,vs,us,q1,q2⟩:=h.heap.sat i _ hi;obtain⟨u,r1,r2,l',bC,r3,r4,r5,r6⟩:=q2.row n.toNat _ (bZ hlt) (fun _ _ e=>by cases e)
 have hget0:ls.getD n.toNat (rE c')=ls[n.toNat]:=by rw [List.getD_eq_getElem?_getD,bZ hlt];rfl
 rw [hget0,r3]at hes;cases hes;have hvl:n.toNat<vs.length:=by rw [q2.len];exact hlt
 have hil:i<σ.nb:=by rw [<- h.len];exact(List.getElem?_eq_some_iff.1 q1).1
 obtain⟨g1,g2,g3⟩:=SL (t:=.tuple (v::vs.set n.toNat (.slice none 0 0)).toArray) q1;have hsl:(ids.set i (.tuple (v::vs.set n.toNat (.slice none 0 0)).toArray)).length=σ.nb:=by rw [List.length_set];exact h.len
 have TW:(ids.set i (.tuple (v::vs.set n.toNat (.slice none 0 0)).toArray)++[u])[σ.nb]?=some u:=by
   rw [List.getElem?_append_right au,hsl,Nat.sub_self];rfl
 have gi:=gZ (e:=[u]) g3;have hden:∀ s y,Den m ids s y->Den m (ids.set i (.tuple (v::vs.set n.toNat (.slice none 0 0)).toArray)++[u]) s y:=fun s y hd=>Den.app _ s (Den.set q1 s hd)
 have gu:∀ (r:Nat) (w:Value) (b:Nat),(v::vs.set n.toNat (.slice none 0 0))[r]?=some w->jI w=some b->r≠n.toNat+1/\(v::vs)[r]?=some w:=fun r w b hw hb=>by
   rcases Sr hvl hw with ⟨_,rfl⟩|h
   ·cases hb
   ·exact h
 have hu1:(v::vs)[n.toNat+1]?=some u:=by simpa using r1
 have fpi:∀ (r:Nat) (w:Value) (b:Nat),(v::vs)[r]?=some w->jI w=some b->Fp ids i (.p8 T1 T2 c' c ls none) b:=fun r w b hw hb=>(uV q1).2 ⟨r,w,hw,hb⟩
 have fpu:∀ b,Fp (ids.set i (.tuple (v::vs.set n.toNat (.slice none 0 0)).toArray)++[u]) σ.nb (.arr T2 none c l') b->jI u=some b:=fun b ⟨_,w,w1,w2⟩=>by
   rw [TW]at w1;cases w1;exact qR (yu r4) w2
 refine⟨ids.set i (.tuple (v::vs.set n.toNat (.slice none 0 0)).toArray)++[u],u,v,vs,us,q1,q2.out,r2,by rw [Den];exact⟨TW,yu r4⟩,
   h.re2 (i:=i) (j:=σ.nb) (h1:=.p8 T1 T2 c' c ls (some (n,σ.nb))) (h2:=.arr T2 none c l') hn0 (by rw [List.length_append,hsl];rfl) hden (fun k hk hkl=>?_) (fun j w hj h1=>gZ (g2 j w hj h1)) (fun r hb hl=>?_) ?_ ⟨u,bC,TW,r4,r5,trivial,r6⟩ (fun b f1 f2=>?_) (fun b hf=>?_) rfl rfl rfl rfl⟩
 ·rw [List.getElem?_append_left (by rw [List.length_set];exact hkl)]
  exact g1 k hk
 ·simp only [j3,setH,bG]at hl;split at hl
  ·rename_i e;cases hl;exact .inr (.inl ⟨e.symm,rfl⟩)
  ·rename_i e;split at hl
   ·rename_i e2;cases hl;exact .inl ⟨e2.symm,rfl⟩
   ·rename_i e2;exact .inr (.inr ⟨Ne.symm e2,Ne.symm e,hl⟩)
 ·refine⟨v,vs.set n.toNat (.slice none 0 0),us,gi,q2.out,by simp [q2.len],q2.K1,q2.B,fun r y hr hne=>?_,fun k j e=>?_,fun r s w w' b hr hs hne hb hb'=>?_⟩
  ·obtain⟨w,w1,w2,w3⟩:=q2.row r y hr (fun _ _ e=>by cases e)
   exact⟨w,by rw [List.getElem?_set_ne (Ne.symm (hne n σ.nb rfl))];exact w1,w2,w3⟩
  ·cases e;exact⟨h0,hlt,by rw [List.getElem?_set_self hvl],u,r2,TW,yu r4⟩
  ·obtain⟨_,hr⟩:=gu r w b hr hb;obtain⟨_,hs⟩:=gu s w' b hs hb';exact q2.sep r s w w' b hr hs hne hb hb'
 ·obtain⟨r,w,hw,hb⟩:=(uV gi).1 f1;obtain⟨hne,hw⟩:=gu r w b hw hb;exact q2.sep r (n.toNat+1) w u b hw hu1 hne hb (fpu b f2)
 ·refine⟨i,_,.inl rfl,hi,?_⟩;rcases hf with hf|hf
  ·obtain⟨r,w,hw,hb⟩:=(uV gi).1 hf;exact fpi r w b (gu r w b hw hb).2 hb
  ·exact fpi _ u b hu1 (fpu b hf)
end
end Go.SX
