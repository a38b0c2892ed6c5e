/- A part of the proof (texts SD, SE, SF). -/
import Derived.Test.YtpndeclljmdjkaaGreatDoorP02
set_option linter.all false
set_option maxRecDepth 100000
namespace Go.SX
open Nat renaming eq_of_beq_eq_true -> dI
open Go.XK Go.RowKit
inductive Kn
 |bool
 |int (k:IntKind)
 |str
 |slice (e:TypeId)
 |arr (n:Nat) (e:TypeId)
 |aV (fs:List (Nat×TypeId))
 |map (k v:TypeId)
 |iface
 |Ja
structure Jj where
 kn:Kn
 size:Nat
 bytes:Nat
 code:Nat
 z:Value
 eq:List Nat
def Jp (P:Program) (T:TypeId):Kn->Prop
 |.bool=>P.underlying T=some .bool
 |.int k=>P.underlying T=some (.int k)
 |.str=>P.underlying T=some .string
 |.slice e=>P.underlying T=some (.slice e)
 |.arr n e=>P.underlying T=some (.array n e)
 |.aV fs=>∃ F:Array Field,P.underlying T=some (.struct F)/\F.toList.map (fun f=>(f.offset,f.type))=fs/\(F.toList.all fun f=>(P.info? f.type).isSome)=true
 |.map k v=>P.underlying T=some (.map k v)
 |.iface=>∃ ms,P.underlying T=some (.interface ms)
 |.Ja=>(match P.underlying T with|some (.struct _)|some (.array ..)|some (.interface _)|none=>false|_=>true)=true
def vO:List Nat->List Value->List Value->Option Bool
 |[],[],[]=>some true
 |1::ks,.int .i64 m::r,.int .i64 n::q=>(vO ks r q).map fun y=>decide (m=n)&&y
 |2::ks,.string m::r,.string n::q=>(vO ks r q).map fun y=>decide (m=n)&&y
 |3::ks,.bool m::r,.bool n::q=>(vO ks r q).map fun y=>decide (m=n)&&y
 |_,_,_=>none
def EqR (P:Program) (op:BinOp) (T:TypeId) (us vs:List Value) (r:Bool):Prop :=
 ∀ x y w,((do eqGuard op T x y (.agg us.toArray) (.agg vs.toArray);binOp op T (.agg us.toArray) (.agg vs.toArray)):Sem Value).run P w=.ok (.bool r) w
structure TyOK (P:Program) (T:TypeId) (i:Jj):Prop where
 kn:Jp P T i.kn
 info:Inf P T i.z i.size i.bytes
 zc:i.z.cells.size=i.size
 eq:i.eq≠[]->∀ us vs r,vO i.eq us vs=some r->EqR P .eql T us vs r/\EqR P .neq T us vs (!r)
inductive vQ
 |lf
 |nd (l:vQ) (k:Nat) (v:Jj) (r:vQ)
def vQ.get:vQ->Nat->Option Jj
 |.lf,_=>none
 |.nd l k v r,t=>match Nat.beq t k with
   |true=>some v
   |false=>match Nat.blt t k with
     |true=>l.get t
     |false=>r.get t
def vQ.All (p:Nat->Jj->Prop):vQ->Prop
 |.lf=>True
 |.nd l k v r=>l.All p/\p k v/\r.All p
theorem vQ.MG {p:Nat->Jj->Prop}:∀ {b:vQ},b.All p->∀ {t:Nat} {i:Jj},b.get t=some i->p t i
 |.lf,_,_,_,h=>by cases h
 |.nd l k v r,⟨h1,h2,h3⟩,t,i,h=>by
   simp only [vQ.get]at h;split at h
   ·rename_i hb;cases dI hb;cases h;exact h2
   ·split at h
    ·exact vQ.MG h1 h
    ·exact vQ.MG h3 h
def IU (P:Program) (t:TypeId) (n:String) (f:FuncId):Option TypeId->Prop
 |none=>∀ v w,(method (P.types.size+Made.depth) t v n).run P w=.ok (f,v) w
 |some T=>∀ b v w,(loadVar T ⟨b,0,none⟩).run P w=.ok v w->(method (P.types.size+Made.depth) t (.pointer (some ⟨b,0,none⟩)) n).run P w=.ok (f,v) w
structure En where
 P:Program
 TI:TypeId->Option Jj
 G:Nat->Option SV
 KO:TypeId->Nat->Bool
 MT:TypeId->String->Option (FuncId×Option TypeId)
 hT:∀ T i,TI T=some i->TyOK P T i
 hK:∀ T c,KO T c=true->jO P T (TV c)
 hm:P.follows .mixedOrders=true
 hM:∀ t n f r,MT t n=some (f,r)->IU P t n f r
inductive PR:Type
 |ok (s:SV)
 |ob (p:Prop) (s:SV)
 |hy (p:Prop) (s:SV)
 |hb (h p:Prop) (s:SV)
 |ar (h:Prop) (x:Int)
 |ap (h p:Prop) (x:Int)
 |no
inductive Rd
 |dead
 |path (π:Path)
def red (kn:List (Nat×Bool)):Path->Rd
 |[]=>.path []
 |(s,b)::r=>match lk kn s with
   |some c=>match b,c with
     |true,true=>red kn r
     |false,false=>red kn r
     |_,_=>.dead
   |none=>match red kn r with
     |.dead=>.dead
     |.path π=>.path ((s,b)::π)
def JY:Path->Path->Bool
 |[],_=>true
 |_::_,[]=>false
 |(s,b)::r,(t,c)::q=>match Nat.beq s t with
   |true=>match b,c with
     |true,true=>JY r q
     |false,false=>JY r q
     |_,_=>false
   |false=>false
def St.slot (σ:St) (π:Path) (t:Nat):Option SV:=match lk σ.gen t with
 |some (ρ,x)=>match red σ.kn ρ with
   |.path ρ'=>match JY ρ' π with
     |true=>some x
     |false=>none
   |.dead=>none
 |none=>lk σ.env t
def in64:Int->Bool
 |.ofNat n=>Nat.blt n 9223372036854775808
 |.negSucc n=>Nat.blt n 9223372036854775808
theorem in64_ok:∀ {n:Int},in64 n=true->lC n
 |.ofNat n,h=>by
   have:n+1<=9223372036854775808:=Nat.le_of_ble_eq_true h;constructor<;>simp<;>omega
 |.negSucc n,h=>by
   have:n+1<=9223372036854775808:=Nat.le_of_ble_eq_true h;constructor<;>omega
def yH:Value->SV
 |.string s=>match Nat.ble s.size 1000000 with
   |true=>.str s
   |false=>.v (.string s)
 |.int .i64 n=>match in64 n with
   |true=>.i n
   |false=>.v (.int .i64 n)
 |.int .u8 (.ofNat n)=>match Nat.blt n 256 with
   |true=>.w8 (UInt8.ofNat n)
   |false=>.v (.int .u8 (.ofNat n))
 |.int .u32 (.ofNat n)=>match Nat.blt n 4294967296 with
   |true=>.w32 (UInt32.ofNat n)
   |false=>.v (.int .u32 (.ofNat n))
 |.int .u64 (.ofNat n)=>match Nat.blt n 18446744073709551616 with
   |true=>.jg (UInt64.ofNat n)
   |false=>.v (.int .u64 (.ofNat n))
 |.bool b=>.b b
 |v=>.v v
def St.ev (E:En) (σ:St) (π:Path):Operand->Option SV
 |.tmp t=>σ.slot π t
 |.const v=>some (yH v)
 |.func f=>some (.nL f [] [])
 |.global g=>E.G g
def St.evs (E:En) (σ:St) (π:Path):List Operand->Option (List SV)
 |[]=>some []
 |x::r=>match σ.ev E π x,σ.evs E π r with
   |some s,some l=>some (s::l)
   |_,_=>none
def St.kU (E:En) (σ:St) (π:Path):List (Nat×Operand)->Option (List (Nat×SV))
 |[]=>some []
 |(i,x)::r=>match σ.ev E π x,σ.kU E π r with
   |some s,some l=>some ((i,s)::l)
   |_,_=>none
def ikN:IntKind->Nat
 |.i8=>0 | .i16=>1 | .i32=>2 | .i64=>3 | .u8=>4 | .u16=>5 | .u32=>6 | .u64=>7
theorem TH {a b:IntKind} (h:Nat.beq (ikN a) (ikN b)=true):a=b:=by
 cases a<;>cases b<;>first|rfl|cases h
def iand (m n:Int):Int:=IntKind.i64.wrap (BitVec.ofInt 64 m &&& BitVec.ofInt 64 n).toNat
def ior (m n:Int):Int:=IntKind.i64.wrap (BitVec.ofInt 64 m ||| BitVec.ofInt 64 n).toNat
def ixor (m n:Int):Int:=IntKind.i64.wrap (BitVec.ofInt 64 m ^^^ BitVec.ofInt 64 n).toNat
def iandn (m n:Int):Int:=IntKind.i64.wrap (BitVec.ofInt 64 m &&& ~~~BitVec.ofInt 64 n).toNat
def intB (op:BinOp) (m n:Int):PR:=match op with
 |.add=>.ar (lC m/\lC n) (m+n)
 |.sub=>.ar (lC m/\lC n) (m-n)
 |.mul=>.ar (lC m/\lC n) (m*n)
 |.quo=>.ap (lC m/\lC n) (n≠0) (m.tdiv n)
 |.rem=>.ob (n≠0) (.i (m.tmod n))
 |.and=>.ok (.i (iand m n))
 |.or=>.ok (.i (ior m n))
 |.xor=>.ok (.i (ixor m n))
 |.andNot=>.ok (.i (iandn m n))
 |.eql=>.ok (.b (decide (m=n)))
 |.neq=>.ok (.b (!decide (m=n)))
 |.lss=>.ok (.b (decide (m<n)))
 |.leq=>.ok (.b (decide (m<=n)))
 |.gtr=>.ok (.b (decide (n<m)))
 |.geq=>.ok (.b (decide (n<=m)))
 |_=>.no
def w8B (op:BinOp) (m n:UInt8):PR:=match op with
 |.add=>.ok (.w8 (m+n))
 |.sub=>.ok (.w8 (m-n))
 |.and=>.ok (.w8 (m &&& n))
 |.or=>.ok (.w8 (m ||| n))
 |.xor=>.ok (.w8 (m ^^^ n))
 |.eql=>.ok (.b (decide (m=n)))
 |.neq=>.ok (.b (!decide (m=n)))
 |.lss=>.ok (.b (decide (m<n)))
 |.leq=>.ok (.b (decide (m<=n)))
 |.gtr=>.ok (.b (decide (n<m)))
 |.geq=>.ok (.b (decide (n<=m)))
 |_=>.no
def w64B (op:BinOp) (m n:UInt64):PR:=match op with
 |.add=>.ok (.jg (m+n))
 |.sub=>.ok (.jg (m-n))
 |.mul=>.ok (.jg (m*n))
 |.quo=>.ob (n≠0) (.jg (m / n))
 |.rem=>.ob (n≠0) (.jg (m % n))
 |.and=>.ok (.jg (m &&& n))
 |.or=>.ok (.jg (m ||| n))
 |.xor=>.ok (.jg (m ^^^ n))
 |.andNot=>.ok (.jg (m &&& ~~~n))
 |.eql=>.ok (.b (decide (m=n)))
 |.neq=>.ok (.b (!decide (m=n)))
 |.lss=>.ok (.b (decide (m<n)))
 |.leq=>.ok (.b (decide (m<=n)))
 |.gtr=>.ok (.b (decide (n<m)))
 |.geq=>.ok (.b (decide (n<=m)))
 |_=>.no
def Fy (x:UInt64) (n:Int):UInt64:=UInt64.ofNat (x.toNat <<< min n.toNat 64)
def iI (x:UInt64) (n:Int):UInt64:=UInt64.ofNat (x.toNat >>> min n.toNat 64)
def shl8 (x:UInt8) (n:Int):UInt8:=UInt8.ofNat (x.toNat <<< min n.toNat 8)
def shr8 (x:UInt8) (n:Int):UInt8:=UInt8.ofNat (x.toNat >>> min n.toNat 8)
def shI (op:BinOp) (m n:Int):PR:=match op with
 |.shl=>.ap (lC m) (0<=n) (m*2 ^ min n.toNat 64)
 |.shr=>.ob (0<=n) (.i (m.fdiv (2 ^ min n.toNat 64)))
 |_=>.no
def sh8 (op:BinOp) (m:UInt8) (n:Int):PR:=match op with
 |.shl=>.ob (0<=n) (.w8 (shl8 m n))
 |.shr=>.ob (0<=n) (.w8 (shr8 m n))
 |_=>.no
def sh64 (op:BinOp) (m:UInt64) (n:Int):PR:=match op with
 |.shl=>.ob (0<=n) (.jg (Fy m n))
 |.shr=>.ob (0<=n) (.jg (iI m n))
 |_=>.no
def isSh:BinOp->Bool
 |.shl=>true
 |.shr=>true
 |_=>false
def wB (a b:ByteArray):Bool:=Op.bytesLess a.toList b.toList
def strB (op:BinOp) (a b:ByteArray):PR:=match op with
 |.eql=>.ok (.b (decide (a=b)))
 |.neq=>.ok (.b (!decide (a=b)))
 |.lss=>.ok (.b (wB a b))
 |.leq=>.ok (.b (wB a b||decide (a=b)))
 |.gtr=>.ok (.b (!(wB a b||decide (a=b))))
 |.geq=>.ok (.b (!wB a b))
 |.add=>.ob (((a.size+b.size:Nat):Int)<=9223372036854775807) (.str (a++b))
 |_=>.no
def Bj:BinOp->Option Bool
 |.eql=>some true
 |.neq=>some false
 |_=>none
def Nj (e:Bool) (b:Bool):Bool:=match e with
 |true=>b
 |false=>!b
def Bh:List Nat->List SV->List SV->Option Bool
 |[],[],[]=>some true
 |1::ks,.i m::r,.i n::q=>match Bh ks r q with
   |some y=>some (decide (m=n)&&y)
   |none=>none
 |2::ks,.str m::r,.str n::q=>match Bh ks r q with
   |some y=>some (decide (m=n)&&y)
   |none=>none
 |3::ks,.b m::r,.b n::q=>match Bh ks r q with
   |some y=>some (decide (m=n)&&y)
   |none=>none
 |_,_,_=>none
def Gz (E:En) (e:Bool) (T:TypeId) (z:Option Bool):PR:=match E.TI T,z with
 |some ⟨.slice _,_,_,_,_,_⟩,some b=>.ok (.b (Nj e b))
 |_,_=>.no
def isBool (E:En) (T:TypeId):Bool:=match E.TI T with
 |some ⟨.bool,_,_,_,_,_⟩=>true
 |_=>false
def asSh:SV->Option Int
 |.i n=>some n
 |.w8 n=>some n.toNat
 |.jg n=>some n.toNat
 |_=>none
def len {α:Type}:List α->Nat
 |[]=>0
 |_::r=>len r+1
def binE (E:En) (σ:St) (op:BinOp) (T:TypeId) (x y:SV):PR:=match isSh op with
 |true=>match x,asSh y with
   |.i m,some n=>shI op m n
   |.w8 m,some n=>sh8 op m n
   |.jg m,some n=>sh64 op m n
   |_,_=>.no
 |false=>match x,y with
   |.i m,.i n=>intB op m n
   |.w8 m,.w8 n=>w8B op m n
   |.jg m,.jg n=>w64B op m n
   |.b p,.b q=>match isBool E T,Bj op with
     |true,some true=>.ok (.b (decide (p=q)))
     |true,some false=>.ok (.b (!decide (p=q)))
     |_,_=>.no
   |.str a,.str b=>strB op a b
   |.agg us,.agg vs=>match Bj op,E.TI T with
     |some e,some ⟨_,_,_,_,_,k::ks⟩=>match Bh (k::ks) us vs with
       |some r=>.ok (.b (Nj e r))
       |none=>.no
     |_,_=>.no
   |.aW z _ _,.v (.slice none 0 0)=>match Bj op with
     |some e=>Gz E e T z
     |none=>.no
   |.v (.slice none 0 0),.v (.slice none 0 0)=>match Bj op with
     |some e=>Gz E e T (some true)
     |none=>.no
   |.bT i,.v (.slice none 0 0)=>match Bj op,lk σ.heap i with
     |some e,some (.arr _ z _ _)=>Gz E e T z
     |_,_=>.no
   |_,_=>.no
@[reducible] def gt (c:Nat) (l:Li c) (k:Nat):ah c:=l.getD k (rE c)
def EH (E:En) (T:TypeId) (f:Nat):Option (Nat×TypeId):=match E.TI T with
 |some ⟨.aV fs,_,_,_,_,_⟩=>nth fs f
 |_=>none
def nO (E:En) (T:TypeId):Option Nat:=match E.TI T with
 |some i=>some i.size
 |none=>none
def elemOf (E:En) (T:TypeId):Option Nat:=match E.TI T with
 |some ⟨.slice e,_,_,_,_,_⟩=>nO E e
 |_=>none
inductive Kd
 |flat
 |agg (k:Nat)
 |bad
def zP (E:En) (T:TypeId):Kd:=match E.TI T with
 |some ⟨.aV _,k,_,_,_,_⟩=>.agg k
 |some ⟨.arr _ _,k,_,_,_,_⟩=>.agg k
 |some ⟨.iface,_,_,_,_,_⟩=>.flat
 |some _=>.flat
 |none=>.bad
section
universe u
def tk {α:Type u}:List α->Nat->List α
 |_,0=>[]
 |[],_+1=>[]
 |x::r,n+1=>x::tk r n
def dp {α:Type u}:List α->Nat->List α
 |l,0=>l
 |[],_+1=>[]
 |_::r,n+1=>dp r n
end
def lq (E:En) (T:TypeId) (cs:List SV) (o:Nat):PR:=match zP E T with
 |.flat=>match nth cs o with
   |some s=>.ok s
   |none=>.no
 |.agg k=>match Nat.beq (len (tk (dp cs o) k)) k with
   |true=>.ok (.agg (tk (dp cs o) k))
   |false=>.no
 |.bad=>.no
def G7 (E:En) (σ:St) (T:TypeId):SV->PR
 |.loc i o=>match lk σ.heap i with
   |some (.row _ cs)=>lq E T cs o
   |some (.Hy _ cs)=>lq E T cs o
   |some (.vec _ N c l)=>match zP E T,o with
     |.agg k,0=>match Nat.beq k (N*KT c)with
       |true=>.ok (.av c N l)
       |false=>.no
     |_,_=>.no
   |_=>.no
 |.fp cs o=>lq E T cs o
 |.lH c N l=>match zP E T with
   |.agg k=>match Nat.beq k (N*KT c)with
     |true=>.ok (.av c N l)
     |false=>.no
   |_=>.no
 |.Ah i c k o=>match lk σ.heap i with
   |some (.arr _ _ c' l)=>match jN c' c l with
     |some l=>match ES c (gt c l k.toNat)with
       |some cs=>lq E T cs o
       |none=>.no
     |none=>.no
   |_=>.no
 |.Ag i c N k o=>match lk σ.heap i with
   |some (.vec _ N' c' l)=>match jN c' c l,Nat.beq N N' with
     |some l,true=>match ES c (gt c l k.toNat)with
       |some cs=>lq E T cs o
       |none=>.no
     |_,_=>.no
   |_=>.no
 |_=>.no
def arrayOf (E:En) (T:TypeId):Option (Nat×Nat):=match E.TI T with
 |some ⟨.arr n e,_,_,_,_,_⟩=>match nO E e with
   |some K=>some (n,K)
   |none=>none
 |_=>none
def asIx:SV->Option Int
 |.i n=>some n
 |.w8 n=>some n.toNat
 |_=>none
def QV (E:En) (σ:St) (T:TypeId) (x:SV) (k:Int):PR:=match x with
 |.yN cs=>match elemOf E T with
   |some 1=>.ob (0<=k/\k<len cs) (.fp cs k.toNat)
   |_=>.no
 |.aW _ c l=>match elemOf E T with
   |some K'=>match Nat.beq (KT c) K',ES c (gt c l k.toNat)with
     |true,some cs=>.ob (0<=k/\k<l.length) (.fp cs 0)
     |_,_=>.no
   |none=>.no
 |.bT i=>match elemOf E T,lk σ.heap i with
   |some K',some (.arr _ _ c l)=>match Nat.beq (KT c) K' with
     |true=>.ob (0<=k/\k<l.length) (.Ah i c k 0)
     |false=>.no
   |some K',some (.far _ c l)=>match Nat.beq (KT c) K',ES c (gt c l k.toNat)with
     |true,some cs=>.ob (0<=k/\k<l.length) (.fp cs 0)
     |_,_=>.no
   |_,_=>.no
 |.wN i=>match elemOf E T,lk σ.heap i with
   |some 1,some (.p8 _ _ _ _ l _)=>.ob (0<=k/\k<l.length) (.DN i k)
   |_,_=>.no
 |.sub i c lo hi=>match elemOf E T with
   |some K'=>match Nat.beq (KT c) K' with
     |true=>.ob (0<=k/\k<hi-lo) (.Ah i c (lo+k) 0)
     |false=>.no
   |_=>.no
 |.DF i c N lo hi=>match elemOf E T with
   |some K'=>match Nat.beq (KT c) K' with
     |true=>.ob (0<=k/\k<hi-lo) (.Ag i c N (lo+k) 0)
     |false=>.no
   |_=>.no
 |.loc i 0=>match arrayOf E T,lk σ.heap i with
   |some (n,K'),some (.vec _ N c _)=>match Nat.beq (KT c) K',Nat.beq n N with
     |true,true=>.ob (0<=k/\k<N) (.Ag i c N k 0)
     |_,_=>.no
   |_,_=>.no
 |.lH c N l=>match arrayOf E T with
   |some (n,K')=>match Nat.beq (KT c) K',Nat.beq n N,ES c (gt c l k.toNat)with
     |true,true,some cs=>.ob (0<=k/\k<N) (.fp cs 0)
     |_,_,_=>.no
   |_=>.no
 |_=>.no
def rz (s:ByteArray) (i:Int):UInt8:=(s[i.toNat]?).getD 0
def asIs:List SV->Option (List Int)
 |[]=>some []
 |.i n::r=>match asIs r with
   |some l=>some (n::l)
   |none=>none
 |_=>none
def idxE (E:En) (T:TypeId) (x:SV) (k:Int):PR:=match E.TI T,x with
 |some ⟨.str,_,_,_,_,_⟩,.str s=>.ob (0<=k/\k<s.size) (.w8 (rz s k))
 |some ⟨.arr n e,_,_,_,_,_⟩,.agg cs=>match asIs cs,zP E e,nO E e with
   |some l,.flat,some 1=>match Nat.beq (len l) n with
     |true=>.ob (0<=k/\k<n) (.i (l.getD k.toNat 0))
     |false=>.no
   |_,_,_=>.no
 |some ⟨.arr n e,_,_,_,_,_⟩,.av c N l=>match zP E e,nO E e,ES c (gt c l k.toNat)with
   |.flat,some 1,some [s]=>match Nat.beq n N with
     |true=>.ob (0<=k/\k<n) s
     |false=>.no
   |_,_,_=>.no
 |_,_=>.no
def lenE (E:En) (σ:St) (T:TypeId) (x:SV):PR:=match E.TI T,x with
 |some ⟨.slice _,_,_,_,_,_⟩,.aW _ c l=>.hy (l.length*BT c<=140737488355328/\l.length<=140737488355328) (.i l.length)
 |some ⟨.slice _,_,_,_,_,_⟩,.v (.slice none 0 0)=>.ok (.i 0)
 |some ⟨.slice _,_,_,_,_,_⟩,.bT i=>match lk σ.heap i with
   |some (.arr _ _ c l)=>.hy (l.length*BT c<=140737488355328/\l.length<=140737488355328) (.i l.length)
   |some (.far _ c l)=>.hy (l.length*BT c<=140737488355328/\l.length<=140737488355328) (.i l.length)
   |_=>.no
 |some ⟨.slice _,_,_,_,_,_⟩,.wN i=>match lk σ.heap i with
   |some (.p8 _ _ c _ l _)=>.hy (l.length*BT c<=140737488355328/\l.length<=140737488355328) (.i l.length)
   |_=>.no
 |some ⟨.slice _,_,_,_,_,_⟩,.sub _ _ lo hi=>.ok (.i (hi-lo))
 |some ⟨.slice _,_,_,_,_,_⟩,.DF _ _ _ lo hi=>.ok (.i (hi-lo))
 |some ⟨.slice _,_,_,_,_,_⟩,.yN cs=>.ok (.i (len cs:Nat))
 |some ⟨.str,_,_,_,_,_⟩,.str s=>.hy ((s.size:Int)<=9223372036854775807) (.i s.size)
 |some ⟨.map _ _,_,_,_,_,_⟩,.bT i=>match lk σ.heap i with
   |some (.mp _ _ l)=>.ob ((l.length:Int)<=9223372036854775807) (.i l.length)
   |_=>.no
 |_,_=>.no
def convE (E:En) (src dst:TypeId) (x:SV):PR:=match E.TI src,E.TI dst with
 |some ⟨.int _,_,_,_,_,_⟩,some ⟨.int k,_,_,_,_,_⟩=>match x,k with
   |.i n,.i64=>.ok (.i n)
   |.i n,.u8=>.ok (.w8 (UInt8.ofInt n))
   |.i n,.u64=>.ok (.jg (UInt64.ofInt n))
   |.i n,k=>.ok (.v (.int k (k.wrap n)))
   |.w8 n,.i64=>.ok (.i n.toNat)
   |.w8 n,.u8=>.ok (.w8 n)
   |.w8 n,.u64=>.ok (.jg (UInt64.ofNat n.toNat))
   |.jg n,.i64=>.ok (.i (IntKind.i64.wrap n.toNat))
   |.jg n,.u8=>.ok (.w8 (UInt8.ofNat n.toNat))
   |.jg n,.u64=>.ok (.jg n)
   |.v (.int _ n),.i64=>.ok (.i (IntKind.i64.wrap n))
   |_,_=>.no
 |some ⟨.str,_,_,_,_,_⟩,some ⟨.str,_,_,_,_,_⟩=>match x with
   |.str s=>.ok (.str s)
   |_=>.no
 |_,_=>.no
def unE (op:UnOp) (x:SV):PR:=match op,x with
 |.not,.b p=>.ok (.b !p)
 |.neg,.i n=>.ar (lC n) (0-n)
 |.xor,.jg n=>.ok (.jg (~~~n))
 |_,_=>.no
def z8 (E:En) (T:TypeId) (x:SV) (f:Nat):PR:=match EH E T f with
 |some (o',T')=>match nO E T' with
   |some (_+1)=>match x with
     |.loc i o=>.ok (.loc i (o+o'))
     |.fp cs o=>.ok (.fp cs (o+o'))
     |.Ah i c k o=>.ok (.Ah i c k (o+o'))
     |.Ag i c N k o=>.ok (.Ag i c N k (o+o'))
     |_=>.no
   |_=>.no
 |none=>.no
def Q7 (E:En) (T:TypeId) (x:SV) (f:Nat):PR:=match x with
 |.agg cs=>match EH E T f with
   |some (o,T')=>lq E T' cs o
   |none=>.no
 |_=>.no
def UL:List Value->List SV
 |[]=>[]
 |v::r=>yH v::UL r
def cellsOf:SV->List SV
 |.agg l=>l
 |.v (.agg cs)=>UL cs.toList
 |s=>[s]
def over:List SV->Nat->List SV->List SV
 |cs,_,[]=>cs
 |[],_,_::_=>[]
 |_::r,0,n::ns=>n::over r 0 ns
 |c::r,o+1,n::ns=>c::over r o (n::ns)
def one:SV->Bool
 |.v (.agg _)=>false
 |.v (.tuple _)=>false
 |.agg _=>false
 |.jm _=>false
 |.av ..=>false
 |.un=>false
 |_=>true
def lK:List SV->Bool
 |[]=>true
 |s::r=>match one s with
   |true=>lK r
   |false=>false
def Gm (E:En) (fs:List (Nat×TypeId)):List (Nat×SV)->List SV->Option (List SV)
 |[],cs=>some cs
 |(f,s)::r,cs=>match nth fs f with
   |some (o,T)=>match nO E T with
     |some k=>match Nat.beq (len (cellsOf s)) k,Nat.ble (o+k) (len cs),lK (cellsOf s)with
       |true,true,true=>Gm E fs r (over cs o (cellsOf s))
       |_,_,_=>none
     |none=>none
   |none=>none
def zJ (k:Nat):List (Nat×SV)->List SV->Option (List SV)
 |[],cs=>some cs
 |(f,s)::r,cs=>match Nat.beq (len (cellsOf s)) k,Nat.ble (f*k+k) (len cs),lK (cellsOf s)with
   |true,true,true=>zJ k r (over cs (f*k) (cellsOf s))
   |_,_,_=>none
def Rl (E:En) (T:TypeId) (ps:List (Nat×SV)):PR:=match E.TI T with
 |some ⟨.aV fs,_,_,_,z,_⟩=>match Gm E fs ps (UL z.cells.toList)with
   |some cs=>.ok (.agg cs)
   |none=>.no
 |some ⟨.arr _ e,_,_,_,z,_⟩=>match nO E e with
   |some k=>match zJ k ps (UL z.cells.toList)with
     |some cs=>.ok (.agg cs)
     |none=>.no
   |none=>.no
 |_=>.no
def QD (q:Bool) (x y:SV) (kx ky:Operand):PR:=match x,y with
 |.b a,.b b=>match kx,ky with
   |_,.const (.bool false)=>.ok (.b (q&&a))
   |.const (.bool true),_=>.ok (.b (q||b))
   |_,_=>.ok (.b (bif q then a else b))
 |.i a,.i b=>.ok (.i (bif q then a else b))
 |.str a,.str b=>.ok (.str (bif q then a else b))
 |_,_=>.no
def YA (E:En) (σ:St) (π:Path) (c x y:Operand):PR:=match c with
 |.tmp t=>match lk σ.kn t with
   |some true=>match σ.ev E π x with
     |some s=>.ok s
     |none=>.no
   |some false=>match σ.ev E π y with
     |some s=>.ok s
     |none=>.no
   |none=>match σ.slot π t,σ.ev E (π++[(t,true)]) x,σ.ev E (π++[(t,false)]) y with
     |some (.b q),some sx,some sy=>QD q sx sy x y
     |_,_,_=>.no
 |_=>.no
def pV (E:En) (T:TypeId):Option (TypeId×Jj):=match E.TI T with
 |some ⟨.slice e,_,_,_,_,_⟩=>match E.TI e with
   |some i=>match Nat.beq (KT i.code) i.size,Nat.beq (BT i.code) i.bytes with
     |true,true=>some (e,i)
     |_,_=>none
   |none=>none
 |_=>none
def Jv (σ:St) (c:Nat):SV->Option (Li c)
 |.aW _ c' l=>jN c' c l
 |.v (.slice none 0 0)=>some []
 |.bT i=>match lk σ.heap i with
   |some (.arr _ _ c' l)=>jN c' c l
   |some (.far _ c' l)=>jN c' c l
   |_=>none
 |.sub i c0 lo hi=>match Nat.beq c0 c with
   |true=>match lk σ.heap i with
     |some (.arr _ _ c' l)=>match jN c' c l with
       |some l=>some ((l.drop lo.toNat).take (hi-lo).toNat)
       |none=>none
     |some (.far _ c' l)=>match jN c' c l with
       |some l=>some ((l.drop lo.toNat).take (hi-lo).toNat)
       |none=>none
     |_=>none
   |false=>none
 |.DF i c0 N lo hi=>match Nat.beq c0 c with
   |true=>match lk σ.heap i with
     |some (.vec _ N' c' l)=>match jN c' c l,Nat.beq N N' with
       |some l,true=>some ((l.drop lo.toNat).take (hi-lo).toNat)
       |_,_=>none
     |_=>none
   |false=>none
 |_=>none
def ofBytes (l:List UInt8):ByteArray:=⟨l.toArray⟩
def jA {k v:Nat} (l:List (ah k×ah v)) (x:ah k):Option (ah v):=match l with
 |[]=>none
 |(a,u)::r=>if x=a then some u else jA r x
def fV {k v:Nat} (l:List (ah k×ah v)) (x:ah k) (y:ah v):List (ah k×ah v):=match l with
 |[]=>[(x,y)]
 |(a,u)::r=>if x=a then(x,y)::r else(a,u)::fV r x y
def codeOf (E:En) (T:TypeId):Option Nat:=match E.TI T with
 |some i=>some i.code
 |none=>none
def Jh (E:En) (σ:St) (x:Option Operand) (n:Int):Option Int:=match x with
 |none=>some n
 |some x=>match σ.ev E [] x with
   |some s=>asIx s
   |none=>none
def rP (lo hi n:Int):Prop:=0<=lo/\lo<=hi/\hi<=n
def P9 (E:En) (σ:St) (T:TypeId) (x:SV) (lo hi:Option Operand):PR:=match E.TI T,x with
 |some ⟨.str,_,_,_,_,_⟩,.str s=>match Jh E σ lo 0,Jh E σ hi s.size with
   |some a,some b=>.hb ((s.size:Int)<=9223372036854775807) (rP a b s.size) (.str (s.extract a.toNat b.toNat))
   |_,_=>.no
 |some ⟨.slice _,_,_,_,_,_⟩,.aW _ c l=>match pV E T with
   |some (_,i)=>match Nat.beq i.code c,Jh E σ lo 0,Jh E σ hi l.length with
     |true,some a,some b=>.hb (l.length*BT c<=140737488355328/\l.length<=140737488355328) (rP a b l.length) (.aW none c ((l.drop a.toNat).take (b-a).toNat))
     |_,_,_=>.no
   |none=>.no
 |some ⟨.slice _,_,_,_,_,_⟩,.bT j=>match pV E T,lk σ.heap j with
   |some (_,i),some (.arr _ _ c l)=>match Nat.beq i.code c,Jh E σ lo 0,Jh E σ hi l.length with
     |true,some a,some b=>.hb (l.length*BT c<=140737488355328/\l.length<=140737488355328) (rP a b l.length) (.sub j c a b)
     |_,_,_=>.no
   |_,_=>.no
 |some ⟨.arr n e,_,_,_,_,_⟩,.loc j 0=>match lk σ.heap j with
   |some (.vec _ N c _)=>match nO E e with
     |some k=>match Nat.beq k (KT c),Nat.beq n N,Jh E σ lo 0,Jh E σ hi n with
       |true,true,some a,some b=>.ob (rP a b N/\N<=140737488355328) (.DF j c N a b)
       |_,_,_,_=>.no
     |none=>.no
   |_=>.no
 |_,_=>.no
def isBytes (E:En) (T:TypeId):Bool:=match E.TI T with
 |some ⟨.slice e,_,_,_,_,_⟩=>match E.TI e with
   |some ⟨.int .u8,_,_,_,_,_⟩=>true
   |_=>false
 |_=>false
def isStr (E:En) (T:TypeId):Bool:=match E.TI T with
 |some ⟨.str,_,_,_,_,_⟩=>true
 |_=>false
def bstrE (σ:St) (x:SV):PR:=match Jv σ 3 x with
 |some l=>.ob (l.length<=140737488355328) (.str (ofBytes l))
 |none=>.no
def zSV:Value->SV
 |.agg cs=>.agg (UL cs.toList)
 |v=>yH v
def zeroV (E:En) (T:TypeId) (c:Nat):Option (ah c):=match E.TI T with
 |some i=>DV c (zSV i.z)
 |none=>none
def Zn (E:En) (σ:St) (T:TypeId) (x k:SV) (ok:Bool):PR:=match E.TI T,x with
 |some ⟨.map kt vt,_,_,_,_,_⟩,.bT i=>match lk σ.heap i,E.TI vt with
   |some (.mp kc vc l),some iv=>match E.KO kt kc,gnd kc,DV kc k,zeroV E vt vc,gnd vc with
     |true,true,some x,some z,true=>match ok with
       |true=>.ok (.jm [VS vc ((jA l x).getD z),.b (jA l x).isSome])
       |false=>.ok (VS vc ((jA l x).getD z))
     |_,_,_,_,_=>.no
   |_,_=>.no
 |_,_=>.no
def esL (c:Nat):Li c->Option (List SV)
 |[]=>some []
 |x::r=>match ES c x,esL c r with
   |some a,some b=>some (a++b)
   |_,_=>none
def PV:SV->SV
 |.av c N l=>match esL c l with
   |some cs=>.agg cs
   |none=>.av c N l
 |s=>s
def evP (E:En) (σ:St) (π:Path) (o:Op):PR:=match o with
 |.move x=>match σ.ev E π x with
   |some s=>.ok s
   |none=>.no
 |.assign x=>match σ.ev E π x with
   |some s=>.ok s
   |none=>.no
 |.nilCheck x=>match σ.ev E π x with
   |some (.loc i o)=>.ok (.loc i o)
   |some (.fp cs o)=>.ok (.fp cs o)
   |some (.lH c N l)=>.ok (.lH c N l)
   |some (.Ah i c k o)=>.ok (.Ah i c k o)
   |some (.Ag i c N k o)=>.ok (.Ag i c N k o)
   |some (.nL f a b)=>.ok (.nL f a b)
   |some (.uo t x)=>.ok (.uo t x)
   |_=>.no
 |.pick c x y=>YA E σ π c x y
 |.binOp op T x y _=>match σ.ev E π x,σ.ev E π y with
   |some a,some b=>binE E σ op T a b
   |_,_=>.no
 |.unOp op _ x=>match σ.ev E π x with
   |some a=>unE op a
   |none=>.no
 |.convert s d x=>match σ.ev E π x with
   |some a=>match isBytes E s,isStr E d with
     |true,true=>bstrE σ a
     |_,_=>convE E s d a
   |none=>.no
 |.slice T x lo hi none=>match σ.ev E π x with
   |some a=>P9 E σ T a lo hi
   |_=>.no
 |.lookup T x k ok=>match σ.ev E π x,σ.ev E π k with
   |some a,some b=>Zn E σ T a (PV b) ok
   |_,_=>.no
 |.fieldAddr T x f=>match σ.ev E π x with
   |some a=>z8 E T a f
   |none=>.no
 |.field T x f=>match σ.ev E π x with
   |some a=>Q7 E T a f
   |none=>.no
 |.indexAddr T x y=>match σ.ev E π x,σ.ev E π y with
   |some a,some b=>match asIx b with
     |some k=>QV E σ T a k
     |none=>.no
   |_,_=>.no
 |.index T x y=>match σ.ev E π x,σ.ev E π y with
   |some a,some b=>match asIx b with
     |some k=>idxE E T a k
     |none=>.no
   |_,_=>.no
 |.load T x=>match σ.ev E π x with
   |some a=>G7 E σ T a
   |none=>.no
 |.extract x i=>match σ.ev E π x with
   |some (.jm l)=>match nth l i with
     |some s=>.ok s
     |none=>.no
   |_=>.no
 |.build T ps=>match σ.kU E π ps.toList with
   |some l=>Rl E T l
   |none=>.no
 |.makeFunc (.func f) a b=>match σ.evs E π a.toList,σ.evs E π b.toList with
   |some x,some y=>.ok (.nL f x y)
   |_,_=>.no
 |.makeInterface T x=>match E.TI T,σ.ev E π x with
   |some ⟨.iface,_,_,_,_,_⟩,_=>.no
   |some _,some s=>.ok (.uo T s)
   |_,_=>.no
 |.typeAssert x _ t false=>match E.TI t,σ.ev E π x with
   |some ⟨.iface,_,_,_,_,_⟩,_=>.no
   |some _,some (.uo t' s)=>match Nat.beq t' t with
     |true=>.ok s
     |false=>.no
   |_,_=>.no
 |.call ⟨.builtin .len,xs,ts⟩=>match xs.toList,ts.toList with
   |[x],[T]=>match σ.ev E π x with
     |some s=>lenE E σ T s
     |none=>.no
   |_,_=>.no
 |.call ⟨.builtin .min,xs,_⟩=>match xs.toList with
   |[x,y]=>match σ.ev E π x,σ.ev E π y with
     |some (.i m),some (.i n)=>.ok (.i (min m n))
     |_,_=>.no
   |_=>.no
 |.call ⟨.builtin .max,xs,_⟩=>match xs.toList with
   |[x,y]=>match σ.ev E π x,σ.ev E π y with
     |some (.i m),some (.i n)=>.ok (.i (max m n))
     |_,_=>.no
   |_=>.no
 |_=>.no
def looks (E:En):Op->Bool
 |.load ..=>true
 |.lookup ..=>true
 |.convert s _ _=>isBytes E s
 |.call ⟨.builtin .len,_,_⟩=>true
 |_=>false
def iR (r:PR) (Q:SV->Prop):Prop:=match r with
 |.ok s=>Q s
 |.ob p s=>p->Q s
 |.hy p s=>p/\Q s
 |.hb h p s=>h/\(p->Q s)
 |.ar h x=>h/\Q (.i (IntKind.i64.wrap x))
 |.ap h p x=>h/\(p->Q (.i (IntKind.i64.wrap x)))
 |.no=>True
def Sl (P:Program) (a:Act) (o:Oper) (v:Value):Prop:=∀ w,bf v w ((execOp a.eval o).run P w)
def iM (E:En) (m:Mm) (ids:List Value) (a:Act) (o:Oper) (s:SV):Prop :=
 ∃ v,Den m ids s v/\(looks E o.op=false->Sl E.P a o v)/\∀ w,Ext m.w w->kD E.P v w ((execOp a.eval o).run E.P w)
theorem exu {P:Program} {v:Value} {w:World} {r:Result Next} (h:bf v w r):kD P v w r:=by
 cases r with
 |ok n w' =>
   cases n<;>simp only [bf]at h
   case value u=>obtain⟨rfl,rfl⟩:=h;exact⟨rfl,Ext.refl _⟩
 |halt x w'=>simp only [bf]at h
theorem iM.of {E:En} {m:Mm} {ids:List Value} {a:Act} {o:Oper} {s:SV} {v:Value} (hd:Den m ids s v) (h:Sl E.P a o v):iM E m ids a o s:=⟨v,hd,fun _=>h,fun w _=>exu (h w)⟩
def dO (a:Act):List (Nat×Value):=(List.range a.tmps.size).map fun t=>(t,a.tmps.getD t undef)
theorem Vz {a:Act} {t:Nat} (ht:t<a.tmps.size):XK.look (dO a) t=some (a.tmps.getD t undef):=by
 have key:∀ (l:List Nat),t∈l->XK.look (l.map fun t=>(t,a.tmps.getD t undef)) t=some (a.tmps.getD t undef):=by
   intro l
   induction l with
   |nil=>intro h;cases h
   |cons k r ih =>
     intro h;simp only [List.map_cons,XK.look]
     by_cases hk:k=t
     ·subst hk;simp
     ·have hb:Nat.beq k t=false:=by
        cases hb:Nat.beq k t with
        |false=>rfl
        |true=>exact absurd (dI hb) hk
      simp only [hb,cond_false];rcases List.mem_cons.1 h with rfl|h
      ·exact absurd rfl hk
      ·exact ih h
 exact key _ (List.mem_range.2 ht)
theorem envA_lt {a:Act} {t:Nat} {v:Value} (h:XK.look (dO a) t=some v):a.tmps.getD t undef=v:=by
 have key:∀ (l:List Nat),XK.look (l.map fun t=>(t,a.tmps.getD t undef)) t=some v->a.tmps.getD t undef=v:=by
   intro l
   induction l with
   |nil=>intro h;cases h
   |cons k r ih =>
     intro h;simp only [List.map_cons,XK.look]at h
     cases hb:Nat.beq k t with
     |true =>
       have:=dI hb;subst this;simpa [hb] using h
     |false =>
       simp only [hb,cond_false]at h;exact ih h
 exact key _ h
theorem aR (a:Act):WR a (dO a) a.tmps.size:=⟨a.defers,rfl,rfl,fun _ _ h=>envA_lt h⟩
theorem dx {P:Program} {a:Act} {o:Oper} {v:Value} (h:gG P (dO a) o v):Sl P a o v:=fun w=>h a _ (aR a) w
section
variable {E:En} {C:Cx} {σ:St} {m:Mm} {ids:List Value} {a:Act} {π:Path}
theorem AB:∀ (ρ:Path),(∀ s b,lk σ.kn s=some b->a.tmps.getD s undef=.bool b)->match red σ.kn ρ with
   |.dead=>¬ Holds a ρ
   |.path ρ'=>Holds a ρ↔Holds a ρ'
 |[],_=>by simp [red]
 |(s,b)::r,hk=>by
   have ih:=AB r hk;simp only [red]
   cases hl:lk σ.kn s with
   |none =>
     simp only
     cases hr:red σ.kn r with
     |dead =>
       rw [hr]at ih;exact fun h=>ih fun g hg=>h g (List.mem_cons_of_mem _ hg)
     |path ρ' =>
       rw [hr]at ih;simp only at ih ⊢;constructor
       ·intro h g hg;rcases List.mem_cons.1 hg with rfl|hg
        ·exact h _ (List.mem_cons_self ..)
        ·exact ih.1 (fun g hg=>h g (List.mem_cons_of_mem _ hg)) g hg
       ·intro h g hg;rcases List.mem_cons.1 hg with rfl|hg
        ·exact h _ (List.mem_cons_self ..)
        ·exact ih.2 (fun g hg=>h g (List.mem_cons_of_mem _ hg)) g hg
   |some c =>
     have hc:=hk s c hl
     have same:∀ b,c=b->(Holds a ((s,b)::r)↔Holds a r):=fun b e=>⟨fun h g hg=>h g (List.mem_cons_of_mem _ hg),fun h g hg=>by
       rcases List.mem_cons.1 hg with rfl|hg
       ·rw [hc,e]
       ·exact h g hg⟩
     cases b<;>cases c<;>simp only
     ·cases hr:red σ.kn r with
      |dead=>rw [hr]at ih;exact fun h=>ih ((same false rfl).1 h)
      |path ρ'=>rw [hr]at ih;exact(same false rfl).trans ih
     ·intro h;have:=h (s,false) (List.mem_cons_self ..);simp only at this;rw [hc]at this;cases this
     ·intro h;have:=h (s,true) (List.mem_cons_self ..);simp only at this;rw [hc]at this;cases this
     ·cases hr:red σ.kn r with
      |dead=>rw [hr]at ih;exact fun h=>ih ((same true rfl).1 h)
      |path ρ'=>rw [hr]at ih;exact(same true rfl).trans ih
theorem zQ:∀ {ρ π:Path},JY ρ π=true->Holds a π->Holds a ρ
 |[],_,_,_=>fun g hg=>by cases hg
 |_::_,[],h,_=>by cases h
 |(s,b)::r,(t,c)::q,h,hh=>by
   simp only [JY]at h;split at h
   ·rename_i hst;have hst':=dI hst;subst hst';have hq:Holds a q:=fun g hg=>hh g (List.mem_cons_of_mem _ hg)
    have hc:=hh (s,c) (List.mem_cons_self ..);cases b<;>cases c<;>simp only at h<;>first|(cases h;done)|skip
    ·intro g hg;rcases List.mem_cons.1 hg with rfl|hg
     ·exact hc
     ·exact zQ h hq g hg
    ·intro g hg;rcases List.mem_cons.1 hg with rfl|hg
     ·exact hc
     ·exact zQ h hq g hg
   ·cases h
theorem SatF.slot (h:SatF C σ m ids a) (hh:Holds a π) {t:Nat} {s:SV} (hs:σ.slot π t=some s):t<a.tmps.size/\Den m ids s (a.tmps.getD t undef):=by
 unfold St.slot at hs;rw [h.size]
 cases hg:lk σ.gen t with
 |none =>
   rw [hg]at hs;exact h.env t s hs
 |some ρx =>
   obtain⟨ρ,x⟩:=ρx;rw [hg]at hs;simp only at hs;have hr:=AB (a:=a) (σ:=σ) ρ h.kn
   cases hq:red σ.kn ρ with
   |dead=>rw [hq]at hs;cases hs
   |path ρ' =>
     rw [hq]at hs hr;simp only at hs hr
     cases hp:JY ρ' π with
     |false=>rw [hp]at hs;cases hs
     |true =>
       rw [hp]at hs;simp only [Option.some.injEq]at hs;subst hs;exact⟨(h.gen t ρ x hg).1,(h.gen t ρ x hg).2.1 (hr.2 (zQ hp hh))⟩
theorem xI (v:Value):Den m ids (yH v) v:=by
 have wd:∀ (k:IntKind) (n j:Nat),n=j->Value.int k (Int.ofNat n)=Value.int k (j:Int):=fun k n j e=>by subst e;rfl
 unfold yH;split
 ·rename_i s;split
  ·rename_i h;rw [Den];refine⟨rfl,?_⟩;have:s.size<=1000000:=Nat.le_of_ble_eq_true h;simp only [oo];omega
  ·rw [Den]
 ·rename_i n;split
  ·rename_i h;rw [Den];exact⟨rfl,in64_ok h⟩
  ·rw [Den]
 ·rename_i n;split
  ·rename_i h;have:n+1<=256:=Nat.le_of_ble_eq_true h;rw [Den];exact wd _ _ _ (by rw [UInt8.toNat_ofNat'];omega)
  ·rw [Den]
 ·rename_i n;split
  ·rename_i h;have:n+1<=4294967296:=Nat.le_of_ble_eq_true h;rw [Den];exact wd _ _ _ (by rw [UInt32.toNat_ofNat'];omega)
  ·rw [Den]
 ·rename_i n;split
  ·rename_i h;have:n+1<=18446744073709551616:=Nat.le_of_ble_eq_true h;rw [Den];exact wd _ _ _ (by rw [UInt64.toNat_ofNat'];omega)
  ·rw [Den]
 ·rw [Den]
 ·rw [Den]
theorem SatF.ev (h:SatF C σ m ids a) (hG:lU E.G m) (hh:Holds a π) {x:Operand} {s:SV} (hs:σ.ev E π x=some s):∃ v,XK.ev (dO a) x=some v/\a.eval x=v/\Den m ids s v:=by
 cases x with
 |tmp t =>
   obtain⟨h1,h2⟩:=h.slot hh hs;exact⟨_,Vz h1,rfl,h2⟩
 |const v =>
   simp only [St.ev,Option.some.injEq]at hs;subst hs;exact⟨v,rfl,rfl,xI v⟩
 |func f =>
   simp only [St.ev,Option.some.injEq]at hs;subst hs;refine⟨_,rfl,rfl,?_⟩;rw [Den];exact⟨[],[],rfl,by rw [aC],by rw [aC]⟩
 |global g =>
   refine⟨_,rfl,rfl,?_⟩;have:=Den.app ids s (hG g s hs);simpa using this
theorem SatF.evs (h:SatF C σ m ids a) (hG:lU E.G m) (hh:Holds a π):∀ {xs:List Operand} {l:List SV},σ.evs E π xs=some l->∃ vs,XK.evs (dO a) xs=some vs/\aC m ids l vs
 |[],l,hs=>by
   simp only [St.evs,Option.some.injEq]at hs;subst hs;exact⟨[],rfl,by rw [aC]⟩
 |x::r,l,hs=>by
   simp only [St.evs]at hs;split at hs
   ·rename_i s l' h1 h2;simp only [Option.some.injEq]at hs;subst hs;obtain⟨v,h3,_,h4⟩:=h.ev hG hh h1;obtain⟨vs,h5,h6⟩:=h.evs hG hh h2;exact⟨v::vs,evs_cons h3 h5,by rw [aC];exact⟨v,vs,rfl,h4,h6⟩⟩
   ·cases hs
def uh (m:Mm) (ids:List Value):List (Nat×SV)->List (Nat×Value)->Prop
 |[],vs=>vs=[]
 |(i,s)::r,vs=>∃ v vs',vs=(i,v)::vs'/\Den m ids s v/\uh m ids r vs'
theorem SatF.kU (h:SatF C σ m ids a) (hG:lU E.G m) (hh:Holds a π):∀ {xs:List (Nat×Operand)} {l:List (Nat×SV)},σ.kU E π xs=some l->∃ vs,XK.kU (dO a) xs=some vs/\uh m ids l vs
 |[],l,hs=>by
   simp only [St.kU,Option.some.injEq]at hs;subst hs;exact⟨[],rfl,rfl⟩
 |(i,x)::r,l,hs=>by
   simp only [St.kU]at hs;split at hs
   ·rename_i s l' h1 h2;simp only [Option.some.injEq]at hs;subst hs;obtain⟨v,h3,_,h4⟩:=h.ev hG hh h1;obtain⟨vs,h5,h6⟩:=h.kU hG hh h2;exact⟨(i,v)::vs,Vj h3 h5,v,vs,rfl,h4,h6⟩
   ·cases hs
end
section
universe u
variable {α:Type u}
theorem Jy:∀ (l:List α) (n:Nat),tk l n=l.take n
 |_,0=>by simp [tk]
 |[],_+1=>by simp [tk]
 |x::r,n+1=>by simp [tk,Jy r n]
theorem Kq:∀ (l:List α) (n:Nat),dp l n=l.drop n
 |_,0=>by simp [dp]
 |[],_+1=>by simp [dp]
 |x::r,n+1=>by simp [dp,Kq r n]
end
theorem len_eq {α:Type}:∀ (l:List α),len l=l.length
 |[]=>rfl
 |_::r=>by simp [len,len_eq r]
theorem wrap_i64 (n:Int):IntKind.i64.wrap n=(n+9223372036854775808) % 18446744073709551616-9223372036854775808:=by
 simp only [IntKind.wrap,IntKind.bits,IntKind.signed,Bool.true_and];split
 ·rename_i h;simp at h;omega
 ·rename_i h;simp at h;omega
theorem WW (n:Int):lC (IntKind.i64.wrap n):=by rw [wrap_i64];unfold lC;omega
theorem kZ {n:Int} (h:lC n):IntKind.i64.wrap n=n:=by rw [wrap_i64];unfold lC at h;omega
theorem wrap_u8 (n:Int):IntKind.u8.wrap n=n % 256:=by simp [IntKind.wrap,IntKind.bits,IntKind.signed]
theorem wrap_u64 (n:Int):IntKind.u64.wrap n=n % 18446744073709551616:=by simp [IntKind.wrap,IntKind.bits,IntKind.signed]
theorem bv8 (x:UInt8):BitVec.ofInt 8 (x.toNat:Int)=x.toBitVec:=by apply BitVec.eq_of_toNat_eq;simp
theorem MU (x:UInt64):BitVec.ofInt 64 (x.toNat:Int)=x.toBitVec:=by apply BitVec.eq_of_toNat_eq;simp
theorem lt8 (x:UInt8):x.toNat<256:=x.toNat_lt
theorem Jc (x:UInt64):x.toNat<18446744073709551616:=x.toNat_lt
section
variable {m:Mm} {ids:List Value}
theorem pW (p:Bool):Den m ids (.b p) (.bool p):=by rw [Den]
theorem nC {n:Int} (h:lC n):Den m ids (.i n) (.int .i64 n):=by rw [Den];exact⟨rfl,h⟩
theorem vH (n:Int):Den m ids (.i (IntKind.i64.wrap n)) (.int .i64 (IntKind.i64.wrap n)):=nC (WW n)
theorem oM {x y:Value} (h:Den m ids (.v x) y):y=x:=by rw [Den]at h;exact h
theorem V3:∀ {ks:List Nat} {ss ts:List SV} {us vs:List Value} {r:Bool},Bh ks ss ts=some r->aC m ids ss us->aC m ids ts vs->vO ks us vs=some r:=by
 intro ks ss ts
 induction ks,ss,ts using Bh.induct with
 |case1=>intro us vs r h hs ht;rw [hs.nil,ht.nil];simpa [Bh,vO] using h
 |case2 ks m r n q y hq ih =>
   intro us vs r h hs ht;simp only [Bh,hq,Option.some.injEq]at h;subst h;rw [aC]at hs ht;obtain⟨u,us',rfl,h3,h4⟩:=hs;obtain⟨v,vs',rfl,h5,h6⟩:=ht;rw [Den]at h3 h5;rw [h3.1,h5.1,vO,ih hq h4 h6];rfl
 |case3 ks m r n q hq ih=>intro us vs r h;simp [Bh,hq]at h
 |case4 ks m r n q y hq ih =>
   intro us vs r h hs ht;simp only [Bh,hq,Option.some.injEq]at h;subst h;rw [aC]at hs ht;obtain⟨u,us',rfl,h3,h4⟩:=hs;obtain⟨v,vs',rfl,h5,h6⟩:=ht;rw [Den]at h3 h5;rw [h3.1,h5.1,vO,ih hq h4 h6];rfl
 |case5 ks m r n q hq ih=>intro us vs r h;simp [Bh,hq]at h
 |case6 ks m r n q y hq ih =>
   intro us vs r h hs ht;simp only [Bh,hq,Option.some.injEq]at h;subst h;rw [aC]at hs ht;obtain⟨u,us',rfl,h3,h4⟩:=hs;obtain⟨v,vs',rfl,h5,h6⟩:=ht;rw [Den]at h3 h5;rw [h3,h5,vO,ih hq h4 h6];rfl
 |case7 ks m r n q hq ih=>intro us vs r h;simp [Bh,hq]at h
 |case8=>intro us vs r h;simp_all [Bh]
end
section
variable {E:En} {C:Cx} {σ:St} {m:Mm} {ids aO:List Value} {a:Act} {π:Path} {d:Option Tmp} {ty:TypeId} {pos:String} {af:Array Edge} {g:Option (Nat×Bool)}
theorem iR.mono {r:PR} {Q Q':SV->Prop} (h:∀ s,Q s->Q' s) (hr:iR r Q):iR r Q':=by
 cases r with
 |ok s=>exact h _ hr
 |ob p s=>exact fun hp=>h _ (hr hp)
 |hy p s=>exact⟨hr.1,h _ hr.2⟩
 |hb p q s=>exact⟨hr.1,fun hp=>h _ (hr.2 hp)⟩
 |ar p x=>exact⟨hr.1,h _ hr.2⟩
 |ap p q x=>exact⟨hr.1,fun hp=>h _ (hr.2 hp)⟩
 |no=>exact True.intro
theorem fK {T:TypeId} {i:Jj} (h:E.TI T=some i):Jp E.P T i.kn:=(E.hT T i h).kn
theorem Tc {o:Oper} (p q:Bool) (e:p=q) (h:Sl E.P a o (.bool q)):iM E m ids a o (.b p):=.of (by rw [e];exact pW _) h
section
variable {T T':TypeId} {x y:Operand} {k:IntKind} {i j:Int} {P:Program}
theorem Qb (hx:XK.ev (dO a) x=some (.int k i)) (hy:XK.ev (dO a) y=some (.int k j)):Sl P a ⟨d,.binOp .and T x y T',ty,pos,af,g⟩ (.int k (k.wrap (BitVec.ofInt k.bits i &&& BitVec.ofInt k.bits j).toNat)):=fun w=>by
 have e1:=(aR a).ev hx;have e2:=(aR a).ev hy;simp [execOp,e1,e2,eqGuard,binOp,Op.intBits,bf]
theorem XU (hx:XK.ev (dO a) x=some (.int k i)) (hy:XK.ev (dO a) y=some (.int k j)):Sl P a ⟨d,.binOp .or T x y T',ty,pos,af,g⟩ (.int k (k.wrap (BitVec.ofInt k.bits i ||| BitVec.ofInt k.bits j).toNat)):=fun w=>by
 have e1:=(aR a).ev hx;have e2:=(aR a).ev hy;simp [execOp,e1,e2,eqGuard,binOp,Op.intBits,bf]
theorem Qa (hx:XK.ev (dO a) x=some (.int k i)) (hy:XK.ev (dO a) y=some (.int k j)):Sl P a ⟨d,.binOp .xor T x y T',ty,pos,af,g⟩ (.int k (k.wrap (BitVec.ofInt k.bits i ^^^ BitVec.ofInt k.bits j).toNat)):=fun w=>by
 have e1:=(aR a).ev hx;have e2:=(aR a).ev hy;simp [execOp,e1,e2,eqGuard,binOp,Op.intBits,bf]
theorem Sk (hx:XK.ev (dO a) x=some (.int k i)) (hy:XK.ev (dO a) y=some (.int k j)):Sl P a ⟨d,.binOp .andNot T x y T',ty,pos,af,g⟩ (.int k (k.wrap (BitVec.ofInt k.bits i &&& ~~~BitVec.ofInt k.bits j).toNat)):=fun w=>by
 have e1:=(aR a).ev hx;have e2:=(aR a).ev hy;simp [execOp,e1,e2,eqGuard,binOp,Op.intBits,bf]
end
theorem intB_ok {op:BinOp} {T T':TypeId} {x y:Operand} {i j:Int} (hx:XK.ev (dO a) x=some (.int .i64 i)) (hy:XK.ev (dO a) y=some (.int .i64 j)) (hi:lC i) (hj:lC j) :
   iR (intB op i j) (iM E m ids a ⟨d,.binOp op T x y T',ty,pos,af,g⟩):=by
 have e1:=(aR a).ev hx;have e2:=(aR a).ev hy;cases op<;>first|exact True.intro|skip
 case add=>exact⟨⟨hi,hj⟩,.of (vH _) (dx (gG.add hx hy))⟩
 case sub=>exact⟨⟨hi,hj⟩,.of (vH _) (dx (gG.sub hx hy))⟩
 case mul=>exact⟨⟨hi,hj⟩,.of (vH _) (dx (gG.mul hx hy))⟩
 case quo=>exact⟨⟨hi,hj⟩,fun h0=>.of (vH _) (dx (gG.quo hx hy h0))⟩
 case rem =>
   refine fun h0=>.of (nC ?_) (dx (gG.rem hx hy h0))
   unfold lC at hi ⊢;have h1:(i.tmod j).natAbs<=i.natAbs:=by rw [Int.natAbs_tmod];exact Nat.mod_le _ _
   have h2:0<=i->0<=i.tmod j:=fun h=>Int.tmod_nonneg j h
   have h3:i<=0->i.tmod j<=0:=fun h=>by
     have:=Int.tmod_nonneg (a:=-i) j au
     rw [Int.neg_tmod]at this;omega
   by_cases h0:0<=i
   ·have:=h2 h0;omega
   ·have:=h3 au
    omega
 case eql=>exact Tc _ _ rfl (dx (gG.eql hx hy))
 case neq=>exact Tc _ _ rfl (dx (gG.neq hx hy))
 case lss=>exact .of (pW _) (dx (gG.lss hx hy))
 case leq=>exact .of (pW _) (dx (gG.leq hx hy))
 case gtr=>exact .of (pW _) (dx (gG.gtr hx hy))
 case geq=>exact .of (pW _) (dx (gG.geq hx hy))
 case and=>exact .of (vH _) (Qb hx hy)
 case or=>exact .of (vH _) (XU hx hy)
 case xor=>exact .of (vH _) (Qa hx hy)
 case andNot=>exact .of (vH _) (Sk hx hy)
theorem w8B_ok {op:BinOp} {T T':TypeId} {x y:Operand} {i j:UInt8} (hx:XK.ev (dO a) x=some (.int .u8 i.toNat)) (hy:XK.ev (dO a) y=some (.int .u8 j.toNat)) :
   iR (w8B op i j) (iM E m ids a ⟨d,.binOp op T x y T',ty,pos,af,g⟩):=by
 have e1:=(aR a).ev hx;have e2:=(aR a).ev hy;have l1:=lt8 i;have l2:=lt8 j;have mk:∀ (s:UInt8) (n:Int),n=(s.toNat:Int)->Sl E.P a ⟨d,.binOp op T x y T',ty,pos,af,g⟩ (.int .u8 n)->iM E m ids a ⟨d,.binOp op T x y T',ty,pos,af,g⟩ (.w8 s):=fun s n h k=>.of (by rw [Den,h]) k
 cases op<;>first|exact True.intro|skip
 case add=>exact mk _ _ (by rw [wrap_u8,UInt8.toNat_add];omega) (dx (gG.add hx hy))
 case sub=>exact mk _ _ (by rw [wrap_u8,UInt8.toNat_sub];omega) (dx (gG.sub hx hy))
 case and =>
   refine mk _ _ ?_ (Qb hx hy);show IntKind.u8.wrap (BitVec.toNat (BitVec.ofInt 8 i.toNat &&& BitVec.ofInt 8 j.toNat))=_;rw [bv8,bv8,wrap_u8,<- UInt8.toBitVec_and];have:=lt8 (i &&& j);change ((i &&& j).toNat:Int) % 256=_;omega
 case or =>
   refine mk _ _ ?_ (XU hx hy);show IntKind.u8.wrap (BitVec.toNat (BitVec.ofInt 8 i.toNat ||| BitVec.ofInt 8 j.toNat))=_;rw [bv8,bv8,wrap_u8,<- UInt8.toBitVec_or];have:=lt8 (i ||| j);change ((i ||| j).toNat:Int) % 256=_;omega
 case xor =>
   refine mk _ _ ?_ (Qa hx hy);show IntKind.u8.wrap (BitVec.toNat (BitVec.ofInt 8 i.toNat ^^^ BitVec.ofInt 8 j.toNat))=_;rw [bv8,bv8,wrap_u8,<- UInt8.toBitVec_xor];have:=lt8 (i ^^^ j);change ((i ^^^ j).toNat:Int) % 256=_;omega
 case eql =>
   have h:decide (i=j)=((i.toNat:Int)==j.toNat):=by rw [Bool.eq_iff_iff,decide_eq_true_eq,beq_iff_eq,<- UInt8.toNat_inj];omega
   exact Tc _ _ h (dx (gG.eql hx hy))
 case neq =>
   have h:(!decide (i=j))=((i.toNat:Int) != j.toNat):=by
     rw [bne,Bool.not_eq_eq_eq_not,Bool.not_not,Bool.eq_iff_iff,decide_eq_true_eq,beq_iff_eq,<- UInt8.toNat_inj];omega
   exact Tc _ _ h (dx (gG.neq hx hy))
 case lss =>
   have h:decide (i<j)=decide ((i.toNat:Int)<j.toNat):=by rw [decide_eq_decide,UInt8.lt_iff_toNat_lt];omega
   exact Tc _ _ h (dx (gG.lss hx hy))
 case leq =>
   have h:decide (i<=j)=decide ((i.toNat:Int)<=j.toNat):=by rw [decide_eq_decide,UInt8.le_iff_toNat_le];omega
   exact Tc _ _ h (dx (gG.leq hx hy))
 case gtr =>
   have h:decide (j<i)=decide ((j.toNat:Int)<i.toNat):=by rw [decide_eq_decide,UInt8.lt_iff_toNat_lt];omega
   exact Tc _ _ h (dx (gG.gtr hx hy))
 case geq =>
   have h:decide (j<=i)=decide ((j.toNat:Int)<=i.toNat):=by rw [decide_eq_decide,UInt8.le_iff_toNat_le];omega
   exact Tc _ _ h (dx (gG.geq hx hy))
theorem w64B_ok {op:BinOp} {T T':TypeId} {x y:Operand} {i j:UInt64} (hx:XK.ev (dO a) x=some (.int .u64 i.toNat)) (hy:XK.ev (dO a) y=some (.int .u64 j.toNat)) :
   iR (w64B op i j) (iM E m ids a ⟨d,.binOp op T x y T',ty,pos,af,g⟩):=by
 have e1:=(aR a).ev hx;have e2:=(aR a).ev hy;have l1:=Jc i;have l2:=Jc j;have mk:∀ (s:UInt64) (n:Int),n=(s.toNat:Int)->Sl E.P a ⟨d,.binOp op T x y T',ty,pos,af,g⟩ (.int .u64 n)->iM E m ids a ⟨d,.binOp op T x y T',ty,pos,af,g⟩ (.jg s):=fun s n h k=>.of (by rw [Den,h]) k
 have nz:j≠0->(j.toNat:Int)≠0:=fun h e=>h (by rw [<- UInt64.toNat_inj];simpa using e)
 cases op<;>first|exact True.intro|skip
 case add=>exact mk _ _ (by rw [wrap_u64,UInt64.toNat_add];omega) (dx (gG.add hx hy))
 case sub=>exact mk _ _ (by rw [wrap_u64,UInt64.toNat_sub];omega) (dx (gG.sub hx hy))
 case mul=>exact mk _ _ (by rw [wrap_u64,UInt64.toNat_mul,<- Int.natCast_mul];omega) (dx (gG.mul hx hy))
 case quo =>
   refine fun h0=>mk _ _ ?_ (dx (gG.quo hx hy (nz h0)))
   have q:((i.toNat:Int).tdiv j.toNat)=((i.toNat / j.toNat:Nat):Int):=(Int.ofNat_tdiv _ _).symm;rw [wrap_u64,UInt64.toNat_div,q];have:=Nat.div_le_self i.toNat j.toNat;generalize i.toNat / j.toNat=z at *;omega
 case rem =>
   refine fun h0=>mk _ _ ?_ (dx (gG.rem hx hy (nz h0)))
   rw [UInt64.toNat_mod,<- Int.ofNat_tmod]
 case and =>
   refine mk _ _ ?_ (Qb hx hy);show IntKind.u64.wrap (BitVec.toNat (BitVec.ofInt 64 i.toNat &&& BitVec.ofInt 64 j.toNat))=_;rw [MU,MU,wrap_u64,<- UInt64.toBitVec_and];have:=Jc (i &&& j);change ((i &&& j).toNat:Int) % 18446744073709551616=_;omega
 case or =>
   refine mk _ _ ?_ (XU hx hy);show IntKind.u64.wrap (BitVec.toNat (BitVec.ofInt 64 i.toNat ||| BitVec.ofInt 64 j.toNat))=_;rw [MU,MU,wrap_u64,<- UInt64.toBitVec_or];have:=Jc (i ||| j);change ((i ||| j).toNat:Int) % 18446744073709551616=_;omega
 case xor =>
   refine mk _ _ ?_ (Qa hx hy);show IntKind.u64.wrap (BitVec.toNat (BitVec.ofInt 64 i.toNat ^^^ BitVec.ofInt 64 j.toNat))=_;rw [MU,MU,wrap_u64,<- UInt64.toBitVec_xor];have:=Jc (i ^^^ j);change ((i ^^^ j).toNat:Int) % 18446744073709551616=_;omega
 case andNot =>
   refine mk _ _ ?_ (Sk hx hy);show IntKind.u64.wrap (BitVec.toNat (BitVec.ofInt 64 i.toNat &&& ~~~BitVec.ofInt 64 j.toNat))=_;rw [MU,MU,wrap_u64,<- UInt64.toBitVec_not,<- UInt64.toBitVec_and];have:=Jc (i &&& ~~~j);change ((i &&& ~~~j).toNat:Int) % 18446744073709551616=_;omega
 case eql =>
   have h:decide (i=j)=((i.toNat:Int)==j.toNat):=by rw [Bool.eq_iff_iff,decide_eq_true_eq,beq_iff_eq,<- UInt64.toNat_inj];omega
   exact Tc _ _ h (dx (gG.eql hx hy))
 case neq =>
   have h:(!decide (i=j))=((i.toNat:Int) != j.toNat):=by
     rw [bne,Bool.not_eq_eq_eq_not,Bool.not_not,Bool.eq_iff_iff,decide_eq_true_eq,beq_iff_eq,<- UInt64.toNat_inj];omega
   exact Tc _ _ h (dx (gG.neq hx hy))
 case lss =>
   have h:decide (i<j)=decide ((i.toNat:Int)<j.toNat):=by rw [decide_eq_decide,UInt64.lt_iff_toNat_lt];omega
   exact Tc _ _ h (dx (gG.lss hx hy))
 case leq =>
   have h:decide (i<=j)=decide ((i.toNat:Int)<=j.toNat):=by rw [decide_eq_decide,UInt64.le_iff_toNat_le];omega
   exact Tc _ _ h (dx (gG.leq hx hy))
 case gtr =>
   have h:decide (j<i)=decide ((j.toNat:Int)<i.toNat):=by rw [decide_eq_decide,UInt64.lt_iff_toNat_lt];omega
   exact Tc _ _ h (dx (gG.gtr hx hy))
 case geq =>
   have h:decide (j<=i)=decide ((j.toNat:Int)<=i.toNat):=by rw [decide_eq_decide,UInt64.le_iff_toNat_le];omega
   exact Tc _ _ h (dx (gG.geq hx hy))
theorem TU {i:Int} (h:lC i) (k:Nat):lC (i.fdiv (2 ^ k)):=by
 have hp:(0:Int)<2 ^ k:=Int.pow_pos (by decide)
 have e:i.fdiv (2 ^ k)=i / 2 ^ k:=Int.fdiv_eq_ediv_of_nonneg _ (Int.le_of_lt hp);rw [e];unfold lC at h ⊢;constructor
 ·refine(Int.le_ediv_iff_mul_le hp).2 ?_;have:(-9223372036854775808:Int)*2 ^ k<=-9223372036854775808*1:=Int.mul_le_mul_of_nonpos_left au au
  omega
 ·by_cases h0:0<=i
  ·exact Int.le_trans (Int.ediv_le_self _ h0) h.2
  ·have:=Int.ediv_neg_of_neg_of_pos (a:=i) (b:=2 ^ k) au hp
   omega
theorem Sq {op:BinOp} {T T':TypeId} {x y:Operand} {k':IntKind} {i:UInt64} {j:Int} (hx:XK.ev (dO a) x=some (.int .u64 i.toNat)) (hy:XK.ev (dO a) y=some (.int k' j)) :
   iR (sh64 op i j) (iM E m ids a ⟨d,.binOp op T x y T',ty,pos,af,g⟩):=by
 have e1:=(aR a).ev hx;have e2:=(aR a).ev hy;have l1:=Jc i;have mk:∀ (s:UInt64) (n:Int),n=(s.toNat:Int)->Sl E.P a ⟨d,.binOp op T x y T',ty,pos,af,g⟩ (.int .u64 n)->iM E m ids a ⟨d,.binOp op T x y T',ty,pos,af,g⟩ (.jg s):=fun s n h k=>.of (by rw [Den,h]) k
 cases op<;>try exact True.intro
 all_goals
   intro h0;have h0':¬ j<0:=by omega
 ·refine mk _ (IntKind.u64.wrap (i.toNat * 2 ^ min j.toNat 64)) ?_ fun w=>?_
  ·rw [wrap_u64];unfold Fy;rw [UInt64.toNat_ofNat',Nat.shiftLeft_eq,show((i.toNat:Int)*2 ^ min j.toNat 64)=((i.toNat * 2 ^ min j.toNat 64:Nat):Int)by rw [Int.natCast_mul,Int.natCast_pow];rfl]
   generalize i.toNat * 2 ^ min j.toNat 64=z;omega
  ·simp [execOp,e1,e2,eqGuard,binOp,Op.shift,h0',bf,IntKind.bits]
 ·refine mk _ ((i.toNat:Int).fdiv (2 ^ min j.toNat 64)) ?_ fun w=>?_
  ·unfold iI;rw [UInt64.toNat_ofNat',Nat.shiftRight_eq_div_pow,Nat.mod_eq_of_lt (Nat.lt_of_le_of_lt (Nat.div_le_self _ _) l1)];rw [Int.fdiv_eq_ediv_of_nonneg _ (Int.le_of_lt (Int.pow_pos (by decide)))]
   rw [Int.natCast_ediv,Int.natCast_pow];rfl
  ·simp [execOp,e1,e2,eqGuard,binOp,Op.shift,h0',bf,IntKind.bits]
theorem XV {op:BinOp} {T T':TypeId} {x y:Operand} {k':IntKind} {i:UInt8} {j:Int} (hx:XK.ev (dO a) x=some (.int .u8 i.toNat)) (hy:XK.ev (dO a) y=some (.int k' j)) :
   iR (sh8 op i j) (iM E m ids a ⟨d,.binOp op T x y T',ty,pos,af,g⟩):=by
 have e1:=(aR a).ev hx;have e2:=(aR a).ev hy;have l1:=lt8 i;have mk:∀ (s:UInt8) (n:Int),n=(s.toNat:Int)->Sl E.P a ⟨d,.binOp op T x y T',ty,pos,af,g⟩ (.int .u8 n)->iM E m ids a ⟨d,.binOp op T x y T',ty,pos,af,g⟩ (.w8 s):=fun s n h k=>.of (by rw [Den,h]) k
 cases op<;>try exact True.intro
 all_goals
   intro h0;have h0':¬ j<0:=by omega
 ·refine mk _ (IntKind.u8.wrap (i.toNat * 2 ^ min j.toNat 8)) ?_ fun w=>?_
  ·rw [wrap_u8];unfold shl8;rw [UInt8.toNat_ofNat',Nat.shiftLeft_eq,show((i.toNat:Int)*2 ^ min j.toNat 8)=((i.toNat * 2 ^ min j.toNat 8:Nat):Int)by rw [Int.natCast_mul,Int.natCast_pow];rfl]
   generalize i.toNat * 2 ^ min j.toNat 8=z;omega
  ·simp [execOp,e1,e2,eqGuard,binOp,Op.shift,h0',bf,IntKind.bits]
 ·refine mk _ ((i.toNat:Int).fdiv (2 ^ min j.toNat 8)) ?_ fun w=>?_
  ·unfold shr8;rw [UInt8.toNat_ofNat',Nat.shiftRight_eq_div_pow,Nat.mod_eq_of_lt (Nat.lt_of_le_of_lt (Nat.div_le_self _ _) l1)];rw [Int.fdiv_eq_ediv_of_nonneg _ (Int.le_of_lt (Int.pow_pos (by decide)))]
   rw [Int.natCast_ediv,Int.natCast_pow];rfl
  ·simp [execOp,e1,e2,eqGuard,binOp,Op.shift,h0',bf,IntKind.bits]
theorem strB_ok {op:BinOp} {T T':TypeId} {x y:Operand} {s t:ByteArray} (hx:XK.ev (dO a) x=some (.string s)) (hy:XK.ev (dO a) y=some (.string t)) :
   iR (strB op s t) (iM E m ids a ⟨d,.binOp op T x y T',ty,pos,af,g⟩):=by
 have e1:=(aR a).ev hx;have e2:=(aR a).ev hy;have eb:(s.toList==t.toList)=decide (s=t):=by rw [Bool.eq_iff_iff,Lib.bytes_beq_iff,decide_eq_true_eq]
 cases op<;>try exact True.intro
 case eql=>exact .of (pW _) (dx (gG.seql hx hy))
 case neq =>
   exact .of (pW _) (dx (gG.sneq hx hy))
 case add =>
   intro h0;have h0':¬ (((s.size+t.size:Nat):Int) > IntKind.i64.max):=by rw [Ww,oo];omega
   refine .of (v:=.string (s++t)) (by rw [Den];exact⟨rfl,by rw [ByteArray.size_append];exact h0⟩) fun w=>?_
   simp only [execOp,e1,e2,eqGuard,binOp,Op.stringOp];rw [if_neg h0'];simp [bf]
 all_goals
   refine .of (pW _) fun w=>?_
   simp [execOp,e1,e2,eqGuard,binOp,Op.stringOp,bf,eb,wB]
theorem Es {op:BinOp} {e:Bool} {T T':TypeId} {x y:Operand} {b:Option Addr} {n c:Nat} {z:Option Bool} (he:Bj op=some e) (hx:XK.ev (dO a) x=some (.slice b n c)) (hy:XK.ev (dO a) y=some (.slice none 0 0)) (hz:AR z (.slice b n c)) :
   iR (Gz E e T z) (iM E m ids a ⟨d,.binOp op T x y T',ty,pos,af,g⟩):=by
 unfold Gz;split
 ·rename_i e' _ _ _ _ _ bz hT;have ht:E.P.underlying T=some (.slice e'):=fK hT;simp only [AR]at hz;subst hz;have e1:=(aR a).ev hx;have e2:=(aR a).ev hy;cases op<;>simp only [Bj]at he<;>cases he
  ·exact .of (pW _) (dx (gG.eqlNil ht hx hy))
  ·refine .of (pW _) fun w=>?_
   have h:=Lib.run_eql_slice_nil (P:=E.P) w T e' b n c 0 0 ht
   have hq:(Op.equal T (.slice b n c) (.slice none 0 0)).run E.P w=.ok b.isNone w:=by
     simp only [binOp]at h;simp only [Sem.run_bind]at h
     cases hr:(Op.equal T (.slice b n c) (.slice none 0 0)).run E.P w with
     |ok v w' =>
       rw [hr]at h;simp only [Result.andThen_ok,Sem.run_pure,Result.ok.injEq,Value.bool.injEq]at h;rw [h.1,h.2]
     |halt _ _=>rw [hr]at h;cases h
   simp only [execOp,e1,e2,Sem.run_bind,eqGuard_at_slice,Sem.run_pure,Result.andThen_ok,binOp,hq];exact⟨rfl,rfl⟩
 ·exact True.intro
end
end Go.SX
