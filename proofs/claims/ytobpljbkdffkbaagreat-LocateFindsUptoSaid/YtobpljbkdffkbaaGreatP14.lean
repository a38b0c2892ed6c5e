/- A part of the proof (texts SW, Tys, Ky, En, Word, Srt, Read). -/
import Derived.Ground.Names2Prog
import Derived.Ground.NamesProg
import Derived.KernelRfl
import Derived.Lib.RowBridge
import Derived.Shelf.Slices.CompactI
import Derived.Shelf.Slices.In.SortNone
import Derived.Shelf.Sort.Plain
import Derived.Sort.OwnSortedInts
import Derived.Test.YtobpljbkdffkbaaGreatP04
import Derived.Test.YtobpljbkdffkbaaGreatP12
import Derived.Test.YtobpljbkdffkbaaGreatP13
import Derived.Test.YtobpljbkdffkbaaGreatProg
import Derived.Test.YtobpljbkdffkbaaGreatRows
set_option linter.all false
set_option maxRecDepth 100000
namespace Go.SX
open Go.XK Go.RowKit
mutual
def eqZ:Nat→Value→Value→Bool
 |0,_,_=>false
 |_+1,.int k n,.int k' n'=>Nat.beq (ikN k) (ikN k')&&decide (n=n')
 |_+1,.bool a,.bool b=>decide (a=b)
 |_+1,.string a,.string b=>Nat.beq a.size 0&&Nat.beq b.size 0
 |_+1,.slice none 0 0,.slice none 0 0=>true
 |_+1,.pointer none,.pointer none=>true
 |_+1,.map none,.map none=>true
 |_+1,.nilFunc,.nilFunc=>true
 |_+1,.nilIface,.nilIface=>true
 |n+1,.agg a,.agg b=>eqZL n a.toList b.toList
 |n+1,.tuple a,.tuple b=>eqZL n a.toList b.toList
 |_,_,_=>false
def eqZL:Nat→List Value→List Value→Bool
 |_,[],[]=>true
 |0,_,_=>false
 |n+1,a::r,b::q=>eqZ n a b&&eqZL n r q
 |_,_,_=>false
end
mutual
theorem eqZ_ok:∀ (n:Nat) {a b:Value},eqZ n a b=true→a=b:=by
 intro n a b h;unfold eqZ at h;split at h
 ·cases h
 ·rw [Bool.and_eq_true]at h;rw [ikN_inj h.1,of_decide_eq_true h.2]
 ·rw [of_decide_eq_true h]
 ·rename_i a b;rw [Bool.and_eq_true]at h;have e1:a=ByteArray.empty:=ByteArray.size_eq_zero_iff.1 (Nat.eq_of_beq_eq_true h.1);have e2:b=ByteArray.empty:=ByteArray.size_eq_zero_iff.1 (Nat.eq_of_beq_eq_true h.2);rw [e1,e2]
 ·rfl
 ·rfl
 ·rfl
 ·rfl
 ·rfl
 ·rw [Array.ext' (eqZL_ok _ h)]
 ·rw [Array.ext' (eqZL_ok _ h)]
 ·cases h
theorem eqZL_ok:∀ (n:Nat) {a b:List Value},eqZL n a b=true→a=b:=by
 intro n a b h;unfold eqZL at h;split at h
 ·rfl
 ·cases h
 ·rw [Bool.and_eq_true]at h;rw [eqZ_ok _ h.1,eqZL_ok _ h.2]
 ·cases h
end
def eqFs:List (Nat×TypeId)→List (Nat×TypeId)→Bool
 |[],[]=>true
 |(a,b)::r,(c,d)::q=>Nat.beq a c&&(Nat.beq b d&&eqFs r q)
 |_,_=>false
theorem eqFs_ok:∀ {a b:List (Nat×TypeId)},eqFs a b=true→a=b
 |[],[],_=>rfl
 |(a,b)::r,(c,d)::q,h=>by
   simp only [eqFs,Bool.and_eq_true]at h;rw [Nat.eq_of_beq_eq_true h.1,Nat.eq_of_beq_eq_true h.2.1,eqFs_ok h.2.2]
 |[],_::_,h=>by cases h
 |_::_,[],h=>by cases h
def knChk (P:Program) (T:TypeId) (k:Kn):Bool:=match P.underlying T,k with
 |some .bool,.bool=>true
 |some (.int k),.int k'=>Nat.beq (ikN k) (ikN k')
 |some .string,.str=>true
 |some (.slice e),.slice e'=>Nat.beq e e'
 |some (.array n e),.arr n' e'=>Nat.beq n n'&&Nat.beq e e'
 |some (.struct F),.strct fs=>eqFs (F.toList.map (fun f=>(f.offset,f.type))) fs&&F.toList.all fun f=>(P.info? f.type).isSome
 |some (.map k v),.map k' v'=>Nat.beq k k'&&Nat.beq v v'
 |some (.interface _),.iface=>true
 |some (.struct _),.oth=>false
 |some (.array ..),.oth=>false
 |some (.interface _),.oth=>false
 |some _,.oth=>true
 |_,_=>false
theorem knChk_ok {P:Program} {T:TypeId} {k:Kn} (h:knChk P T k=true):KnOK P T k:=by
 unfold knChk at h;split at h
 ·assumption
 ·rename_i hu;unfold KnOK;rw [hu,ikN_inj h]
 ·assumption
 ·rename_i hu;unfold KnOK;rw [hu,Nat.eq_of_beq_eq_true h]
 ·rename_i hu;rw [Bool.and_eq_true]at h;unfold KnOK;rw [hu,Nat.eq_of_beq_eq_true h.1,Nat.eq_of_beq_eq_true h.2]
 ·rename_i hu;rw [Bool.and_eq_true]at h;exact⟨_,hu,eqFs_ok h.1,h.2⟩
 ·rename_i hu;rw [Bool.and_eq_true]at h;unfold KnOK;rw [hu,Nat.eq_of_beq_eq_true h.1,Nat.eq_of_beq_eq_true h.2]
 ·rename_i hu;exact⟨_,hu⟩
 ·cases h
 ·cases h
 ·cases h
 ·rename_i D h1 h2 h3 hu;unfold KnOK;rw [hu];cases D<;>first|rfl|exact absurd rfl (h1 _)|exact absurd rfl (h2 _ _)|exact absurd rfl (h3 _)
 ·cases h
def tyChk (P:Program) (T:TypeId) (i:TyI):Bool:=knChk P T i.kn&&((match P.info? T with
 |some j=>(match j.zero with
   |some z=>eqZ 300 z i.z
   |none=>false)&&(Nat.beq j.size i.size&&Nat.beq j.bytes i.bytes)
 |none=>false)&&(Nat.beq i.z.cells.size i.size&&i.eq.isEmpty))
theorem tyChk_ok {P:Program} {T:TypeId} {i:TyI} (h:tyChk P T i=true):TyOK P T i:=by
 simp only [tyChk,Bool.and_eq_true]at h;obtain⟨h1,h2,h3,h4⟩:=h;refine⟨knChk_ok h1,?_,Nat.eq_of_beq_eq_true h3,fun hn=>absurd (List.isEmpty_iff.1 h4) hn⟩
 split at h2
 ·rename_i j hj;rw [Bool.and_eq_true,Bool.and_eq_true]at h2;split at h2
  ·rename_i z hz;unfold Inf;rw [hj,Option.map_some,hz,eqZ_ok _ h2.1,Nat.eq_of_beq_eq_true h2.2.1,Nat.eq_of_beq_eq_true h2.2.2]
  ·cases h2.1
 ·cases h2
def BTr.chk (P:Program):BTr→Bool
 |.lf=>true
 |.nd l k v r=>l.chk P&&(tyChk P k v&&r.chk P)
theorem BTr.chk_ok {P:Program}:∀ {b:BTr},b.chk P=true→b.All (TyOK P)
 |.lf,_=>trivial
 |.nd l k v r,h=>by
   simp only [BTr.chk,Bool.and_eq_true]at h;exact⟨BTr.chk_ok h.1,tyChk_ok h.2.1,BTr.chk_ok h.2.2⟩
def EqT (P:Program) (T:TypeId) (ks:List Nat):Prop:=∀ us vs r,eqVs ks us vs=some r→EqR P .eql T us vs r∧EqR P .neq T us vs (!r)
def tyI (b:BTr) (sp:List (Nat×List Nat)) (T:TypeId):Option TyI:=match b.get T with
 |some ⟨k,s,y,c,z,e⟩=>match lk sp T with
   |some ks=>some ⟨k,s,y,c,z,ks⟩
   |none=>some ⟨k,s,y,c,z,e⟩
 |none=>none
theorem tyI_ok {P:Program} {b:BTr} {sp:List (Nat×List Nat)} (hb:b.chk P=true) (hs:∀ T ks,lk sp T=some ks→EqT P T ks) (T:TypeId) (i:TyI) (h:tyI b sp T=some i):TyOK P T i:=by
 unfold tyI at h;split at h
 ·rename_i k s y c z e hg;have q:=BTr.get_all (BTr.chk_ok hb) hg;split at h
  ·rename_i ks hk;cases h;exact⟨q.kn,q.info,q.zc,fun _ us vs r hv=>hs T ks hk us vs r hv⟩
  ·cases h;exact q
 ·cases h
def koT (l:List (Nat×Nat)) (T:TypeId) (c:Nat):Bool:=match l with
 |[]=>false
 |(a,b)::r=>match Nat.beq a T&&Nat.beq b c with
   |true=>true
   |false=>koT r T c
theorem koT_mem:∀ {l:List (Nat×Nat)} {T:TypeId} {c:Nat},koT l T c=true→(T,c)∈l
 |[],_,_,h=>by cases h
 |(a,b)::r,T,c,h=>by
   simp only [koT]at h;split at h
   ·rename_i hb;rw [Bool.and_eq_true]at hb;rw [Nat.eq_of_beq_eq_true hb.1,Nat.eq_of_beq_eq_true hb.2];exact List.mem_cons_self ..
   ·exact List.mem_cons_of_mem _ (koT_mem h)
def methB (P:Program) (t:TypeId) (n:String) (f:FuncId) (b:Bool):Bool:=match P.info? t with
 |some i=>match i.methods.find? (·.name==n)with
   |some m=>m.path.isEmpty&&decide (m.func=some (f,b))
   |none=>false
 |none=>false
theorem methB_spec {P:Program} {t:TypeId} {n:String} {f:FuncId} {b:Bool} (h:methB P t n f b=true):∃ i m,P.info? t=some i∧i.methods.find? (·.name==n)=some m∧m.path = #[]∧m.func=some (f,b):=by
 unfold methB at h;split at h
 ·rename_i i hi;split at h
  ·rename_i m hm;simp only [Bool.and_eq_true,decide_eq_true_eq,Array.isEmpty_iff]at h;exact⟨i,m,hi,hm,h.1,h.2⟩
  ·cases h
 ·cases h
theorem meth_ptr {P:Program} {t e:TypeId} {n:String} {f:FuncId} (h:methB P t n f true=true) (hu:P.underlying t=some (.pointer e)):MethOK P t n f none:=by
 intro v w;obtain⟨i,m,h1,h2,h3,h4⟩:=methB_spec h;show(method ((P.types.size+99)+1) t v n).run P w=_;rw [method];simp [typeInfo,h1,h2,h3,h4,follow,receiverAt,run_underlying hu,Place.get]
theorem wrapNil {P:Program} {tys:Array TypeId} {T:TypeId} {a:Addr} {n:String} {w:World}:(Builtin.ssaWrapNilChk_ tys T #[.pointer (some a),strVal "", strVal n]).run P w=.ok (.pointer (some a)) w:=rfl
theorem meth_val {P:Program} {t e:TypeId} {n:String} {f:FuncId} (h:methB P t n f false=true) (hu:P.underlying t=some (.pointer e)):MethOK P t n f (some e):=by
 intro b v w hl;obtain⟨i,m,h1,h2,h3,h4⟩:=methB_spec h;show(method ((P.types.size+99)+1) t _ n).run P w=_;rw [method];simp [typeInfo,h1,h2,h3,h4,follow,receiverAt,run_underlying hu,Place.get,wrapNil,asAddr,hl]
def mtT:List (Nat×String×FuncId×Option TypeId)→TypeId→String→Option (FuncId×Option TypeId)
 |[],_,_=>none
 |(a,s,r)::l,t,n=>match Nat.beq a t&&decide (s=n)with
   |true=>some r
   |false=>mtT l t n
theorem mtT_mem:∀ {l:List (Nat×String×FuncId×Option TypeId)} {t:TypeId} {n:String} {r:FuncId×Option TypeId},mtT l t n=some r→(t,n,r)∈l
 |[],_,_,_,h=>by cases h
 |(a,s,q)::l,t,n,r,h=>by
   simp only [mtT]at h;split at h
   ·rename_i hb;rw [Bool.and_eq_true,decide_eq_true_eq]at hb;cases h;rw [Nat.eq_of_beq_eq_true hb.1,hb.2];exact List.mem_cons_self ..
   ·exact List.mem_cons_of_mem _ (mtT_mem h)
def mkEn (P:Program) (b:BTr) (sp:List (Nat×List Nat)) (ko:List (Nat×Nat)) (mt:List (Nat×String×FuncId×Option TypeId)) (G:Nat→Option SV) (hb:b.chk P=true) (hs:∀ T ks,lk sp T=some ks→EqT P T ks) (hk:∀ p∈ko,KeyOK P p.1 (TV p.2)) (hm:P.follows .mixedOrders=true)
   (hM:∀ p∈mt,MethOK P p.1 p.2.1 p.2.2.1 p.2.2.2):En :=
 ⟨P,tyI b sp,G,koT ko,mtT mt,tyI_ok hb hs,fun _ _ h=>hk _ (koT_mem h),hm,fun _ _ _ _ h=>hM _ (mtT_mem h)⟩
end Go.SX
namespace Go.SX
abbrev oF:TyI:=⟨.oth,1,8,999,.nilFunc,[]⟩
def tyT0:BTr:=(.nd (.nd (.nd (.nd (.nd (.nd .lf 0 ⟨.oth,1,0,999,.tuple #[],[]⟩ .lf) 1 oF .lf) 2 ⟨.int .i64,1,8,0,.int .i64 0,[]⟩ (.nd (.nd .lf 3 ⟨.int .i64,1,8,0,.int .i64 0,[]⟩ .lf) 4 ⟨.bool,1,1,2,.bool false,[]⟩ .lf)) 5 ⟨.int .u8,1,1,3,.int .u8 0,[]⟩ (.nd (.nd (.nd .lf 6 ⟨.int .u8,1,1,999,.int .u8 0,[]⟩ .lf) 7 ⟨.strct [(0,2),(1,3),(2,4),(3,6)],4,24,999,.agg #[.int .i64 0,.int .i64 0,.bool false,.int .u8 0],[]⟩ .lf) 8 ⟨.strct [(0,2),(1,3),(2,4),(3,6)],4,24,999,.agg #[.int .i64 0,.int .i64 0,.bool false,.int .u8 0],[]⟩ (.nd .lf 9 ⟨.str,1,16,1,.string .empty,[]⟩ .lf))) 10 ⟨.str,1,16,999,.string .empty,[]⟩ (.nd (.nd (.nd (.nd .lf 11 ⟨.str,1,16,999,.string .empty,[]⟩ .lf) 12 ⟨.int .u64,1,8,5,.int .u64 0,[]⟩ .lf) 13 ⟨.strct [(0,9),(1,12)],2,24,999,.agg #[.string .empty,.int .u64 0],[]⟩ (.nd .lf 14 ⟨.strct [(0,9),(1,12)],2,24,999,.agg #[.string .empty,.int .u64 0],[]⟩ .lf)) 15 ⟨.oth,1,8,999,.pointer none,[]⟩ (.nd (.nd (.nd .lf 16 ⟨.oth,1,8,999,.pointer none,[]⟩ .lf) 17 ⟨.oth,1,8,999,.pointer none,[]⟩ .lf) 18 ⟨.strct [(0,17)],1,8,999,.agg #[.pointer none],[]⟩ (.nd .lf 19 ⟨.strct [(0,17)],1,8,999,.agg #[.pointer none],[]⟩ .lf)))) 20 ⟨.iface,1,16,999,.nilIface,[]⟩ (.nd (.nd (.nd (.nd (.nd .lf 21 ⟨.int .i32,1,4,999,.int .i32 0,[]⟩ .lf) 22 ⟨.slice 90,1,24,7,.slice none 0 0,[]⟩ .lf) 23 ⟨.slice 100,1,24,9,.slice none 0 0,[]⟩ (.nd .lf 24 ⟨.slice 107,1,24,11,.slice none 0 0,[]⟩ .lf)) 25 ⟨.slice 3,1,24,12,.slice none 0 0,[]⟩ (.nd (.nd (.nd .lf 26 ⟨.slice 110,1,24,14,.slice none 0 0,[]⟩ .lf) 27 ⟨.slice 9,1,24,15,.slice none 0 0,[]⟩ .lf) 28 ⟨.slice 153,1,24,17,.slice none 0 0,[]⟩ (.nd .lf 29 ⟨.slice 53,1,24,19,.slice none 0 0,[]⟩ .lf))) 30 ⟨.slice 43,1,24,21,.slice none 0 0,[]⟩ (.nd (.nd (.nd (.nd .lf 31 ⟨.slice 65,1,24,23,.slice none 0 0,[]⟩ .lf) 32 ⟨.slice 57,1,24,25,.slice none 0 0,[]⟩ .lf) 33 ⟨.slice 127,1,24,27,.slice none 0 0,[]⟩ (.nd .lf 34 ⟨.slice 133,1,24,29,.slice none 0 0,[]⟩ .lf)) 35 ⟨.strct [(0,29),(1,30),(2,31),(3,32),(4,33),(5,34)],6,144,30,.agg #[.slice none 0 0,.slice none 0 0,.slice none 0 0,.slice none 0 0,.slice none 0 0,.slice none 0 0],[]⟩ (.nd (.nd (.nd .lf 36 ⟨.strct [(0,29),(1,30),(2,31),(3,32),(4,33),(5,34)],6,144,30,.agg #[.slice none 0 0,.slice none 0 0,.slice none 0 0,.slice none 0 0,.slice none 0 0,.slice none 0 0],[]⟩ .lf) 37 ⟨.slice 140,1,24,34,.slice none 0 0,[]⟩ .lf) 38 ⟨.strct [(0,9),(1,4),(2,3),(3,3),(4,3),(5,9),(6,9),(7,3),(8,22),(9,23),(10,24),(11,25),(12,25),(13,26),(14,25),(15,25),(16,3),(17,27),(18,28),(19,36),(25,37)],26,504,35,.agg #[.string .empty,.bool false,.int .i64 0,.int .i64 0,.int .i64 0,.string .empty,.string .empty,.int .i64 0,.slice none 0 0,.slice none 0 0,.slice none 0 0,.slice none 0 0,.slice none 0 0,.slice none 0 0,.slice none 0 0,.slice none 0 0,.int .i64 0,.slice none 0 0,.slice none 0 0,.slice none 0 0,.slice none 0 0,.slice none 0 0,.slice none 0 0,.slice none 0 0,.slice none 0 0,.slice none 0 0],[]⟩ (.nd .lf 39 ⟨.strct [(0,9),(1,4),(2,3),(3,3),(4,3),(5,9),(6,9),(7,3),(8,22),(9,23),(10,24),(11,25),(12,25),(13,26),(14,25),(15,25),(16,3),(17,27),(18,28),(19,36),(25,37)],26,504,35,.agg #[.string .empty,.bool false,.int .i64 0,.int .i64 0,.int .i64 0,.string .empty,.string .empty,.int .i64 0,.slice none 0 0,.slice none 0 0,.slice none 0 0,.slice none 0 0,.slice none 0 0,.slice none 0 0,.slice none 0 0,.slice none 0 0,.int .i64 0,.slice none 0 0,.slice none 0 0,.slice none 0 0,.slice none 0 0,.slice none 0 0,.slice none 0 0,.slice none 0 0,.slice none 0 0,.slice none 0 0],[]⟩ .lf)))))
def tyT1:BTr:=(.nd (.nd (.nd (.nd (.nd (.nd .lf 41 oF .lf) 42 ⟨.strct [(0,3),(1,3),(2,9),(3,3)],4,40,20,.agg #[.int .i64 0,.int .i64 0,.string .empty,.int .i64 0],[]⟩ .lf) 43 ⟨.strct [(0,3),(1,3),(2,9),(3,3)],4,40,20,.agg #[.int .i64 0,.int .i64 0,.string .empty,.int .i64 0],[]⟩ (.nd (.nd .lf 44 oF .lf) 45 ⟨.strct [(0,9),(1,3),(2,9),(3,3),(4,32)],5,72,36,.agg #[.string .empty,.int .i64 0,.string .empty,.int .i64 0,.slice none 0 0],[]⟩ .lf)) 46 ⟨.strct [(0,9),(1,3),(2,9),(3,3),(4,32)],5,72,36,.agg #[.string .empty,.int .i64 0,.string .empty,.int .i64 0,.slice none 0 0],[]⟩ (.nd (.nd (.nd .lf 47 ⟨.oth,1,0,999,.tuple #[.agg #[.string .empty,.int .i64 0,.string .empty,.int .i64 0,.slice none 0 0],.bool false],[]⟩ .lf) 48 oF .lf) 49 oF (.nd .lf 50 ⟨.oth,1,0,999,.tuple #[.int .i64 0,.bool false],[]⟩ .lf))) 51 oF (.nd (.nd (.nd (.nd .lf 52 ⟨.strct [(0,9),(1,3),(2,3),(3,3)],4,40,18,.agg #[.string .empty,.int .i64 0,.int .i64 0,.int .i64 0],[]⟩ .lf) 53 ⟨.strct [(0,9),(1,3),(2,3),(3,3)],4,40,18,.agg #[.string .empty,.int .i64 0,.int .i64 0,.int .i64 0],[]⟩ .lf) 54 oF (.nd .lf 55 oF .lf)) 56 ⟨.strct [(0,3),(1,3),(2,3),(3,9),(4,9),(5,3)],6,64,24,.agg #[.int .i64 0,.int .i64 0,.int .i64 0,.string .empty,.string .empty,.int .i64 0],[]⟩ (.nd (.nd (.nd .lf 57 ⟨.strct [(0,3),(1,3),(2,3),(3,9),(4,9),(5,3)],6,64,24,.agg #[.int .i64 0,.int .i64 0,.int .i64 0,.string .empty,.string .empty,.int .i64 0],[]⟩ .lf) 58 oF .lf) 59 oF (.nd .lf 60 oF .lf)))) 61 oF (.nd (.nd (.nd (.nd (.nd .lf 62 oF .lf) 63 oF .lf) 64 ⟨.strct [(0,3),(1,3)],2,16,22,.agg #[.int .i64 0,.int .i64 0],[]⟩ (.nd .lf 65 ⟨.strct [(0,3),(1,3)],2,16,22,.agg #[.int .i64 0,.int .i64 0],[]⟩ .lf)) 66 ⟨.oth,1,0,999,.tuple #[.agg #[.int .i64 0,.int .i64 0],.bool false],[]⟩ (.nd (.nd (.nd .lf 67 oF .lf) 68 oF .lf) 69 ⟨.oth,1,0,999,.tuple #[.agg #[.string .empty,.int .i64 0,.int .i64 0,.int .i64 0],.bool false],[]⟩ (.nd .lf 70 oF .lf))) 71 oF (.nd (.nd (.nd (.nd .lf 72 oF .lf) 73 oF .lf) 74 oF (.nd .lf 75 ⟨.oth,1,0,999,.tuple #[.agg #[.int .i64 0,.int .i64 0,.string .empty,.int .i64 0],.bool false],[]⟩ .lf)) 76 oF (.nd (.nd (.nd .lf 77 oF .lf) 78 oF .lf) 79 oF (.nd .lf 80 oF .lf)))))
def tyT2:BTr:=(.nd (.nd (.nd (.nd (.nd (.nd .lf 82 oF .lf) 83 oF .lf) 84 oF (.nd (.nd .lf 85 oF .lf) 86 oF .lf)) 87 oF (.nd (.nd (.nd .lf 88 oF .lf) 89 ⟨.strct [(0,9),(1,9),(2,3),(3,3),(4,3),(5,9),(6,9)],7,88,6,.agg #[.string .empty,.string .empty,.int .i64 0,.int .i64 0,.int .i64 0,.string .empty,.string .empty],[]⟩ .lf) 90 ⟨.strct [(0,9),(1,9),(2,3),(3,3),(4,3),(5,9),(6,9)],7,88,6,.agg #[.string .empty,.string .empty,.int .i64 0,.int .i64 0,.int .i64 0,.string .empty,.string .empty],[]⟩ (.nd .lf 91 oF .lf))) 92 oF (.nd (.nd (.nd (.nd .lf 93 ⟨.map 94 4,1,8,999,.map none,[]⟩ .lf) 94 ⟨.arr 2 9,2,32,37,.agg #[.string .empty,.string .empty],[]⟩ .lf) 95 oF (.nd .lf 96 oF .lf)) 97 ⟨.map 9 4,1,8,999,.map none,[]⟩ (.nd (.nd (.nd .lf 98 oF .lf) 99 ⟨.strct [(0,9),(1,9),(2,4),(3,3),(4,3),(5,3)],6,64,8,.agg #[.string .empty,.string .empty,.bool false,.int .i64 0,.int .i64 0,.int .i64 0],[]⟩ .lf) 100 ⟨.strct [(0,9),(1,9),(2,4),(3,3),(4,3),(5,3)],6,64,8,.agg #[.string .empty,.string .empty,.bool false,.int .i64 0,.int .i64 0,.int .i64 0],[]⟩ (.nd .lf 101 oF .lf)))) 102 oF (.nd (.nd (.nd (.nd (.nd .lf 103 oF .lf) 104 ⟨.map 3 4,1,8,999,.map none,[]⟩ .lf) 105 oF (.nd .lf 106 ⟨.strct [(0,9),(1,9),(2,3),(3,4),(4,4)],5,48,10,.agg #[.string .empty,.string .empty,.int .i64 0,.bool false,.bool false],[]⟩ .lf)) 107 ⟨.strct [(0,9),(1,9),(2,3),(3,4),(4,4)],5,48,10,.agg #[.string .empty,.string .empty,.int .i64 0,.bool false,.bool false],[]⟩ (.nd (.nd (.nd .lf 108 oF .lf) 109 ⟨.strct [(0,3),(1,3),(2,3),(3,3)],4,32,13,.agg #[.int .i64 0,.int .i64 0,.int .i64 0,.int .i64 0],[]⟩ .lf) 110 ⟨.strct [(0,3),(1,3),(2,3),(3,3)],4,32,13,.agg #[.int .i64 0,.int .i64 0,.int .i64 0,.int .i64 0],[]⟩ (.nd .lf 111 oF .lf))) 112 oF (.nd (.nd (.nd (.nd .lf 113 oF .lf) 114 oF .lf) 115 oF (.nd .lf 116 oF .lf)) 117 oF (.nd (.nd (.nd .lf 118 oF .lf) 119 oF .lf) 120 oF (.nd .lf 121 oF .lf)))))
def tyT3:BTr:=(.nd (.nd (.nd (.nd (.nd (.nd .lf 123 oF .lf) 124 oF .lf) 125 oF (.nd (.nd .lf 126 ⟨.strct [(0,3),(1,3),(2,3),(3,9),(4,3),(5,3)],6,56,26,.agg #[.int .i64 0,.int .i64 0,.int .i64 0,.string .empty,.int .i64 0,.int .i64 0],[]⟩ .lf) 127 ⟨.strct [(0,3),(1,3),(2,3),(3,9),(4,3),(5,3)],6,56,26,.agg #[.int .i64 0,.int .i64 0,.int .i64 0,.string .empty,.int .i64 0,.int .i64 0],[]⟩ .lf)) 128 oF (.nd (.nd (.nd .lf 129 oF .lf) 130 oF .lf) 131 oF (.nd .lf 132 ⟨.strct [(0,3),(1,3),(2,3),(3,3)],4,32,28,.agg #[.int .i64 0,.int .i64 0,.int .i64 0,.int .i64 0],[]⟩ .lf))) 133 ⟨.strct [(0,3),(1,3),(2,3),(3,3)],4,32,28,.agg #[.int .i64 0,.int .i64 0,.int .i64 0,.int .i64 0],[]⟩ (.nd (.nd (.nd (.nd .lf 134 oF .lf) 135 oF .lf) 136 oF (.nd .lf 137 oF .lf)) 138 ⟨.slice 143,1,24,32,.slice none 0 0,[]⟩ (.nd (.nd (.nd .lf 139 ⟨.strct [(0,9),(1,9),(2,9),(3,138),(4,3)],5,80,33,.agg #[.string .empty,.string .empty,.string .empty,.slice none 0 0,.int .i64 0],[]⟩ .lf) 140 ⟨.strct [(0,9),(1,9),(2,9),(3,138),(4,3)],5,80,33,.agg #[.string .empty,.string .empty,.string .empty,.slice none 0 0,.int .i64 0],[]⟩ .lf) 141 oF (.nd .lf 142 ⟨.strct [(0,3),(1,3),(2,3)],3,24,31,.agg #[.int .i64 0,.int .i64 0,.int .i64 0],[]⟩ .lf)))) 143 ⟨.strct [(0,3),(1,3),(2,3)],3,24,31,.agg #[.int .i64 0,.int .i64 0,.int .i64 0],[]⟩ (.nd (.nd (.nd (.nd (.nd .lf 144 oF .lf) 145 oF .lf) 146 oF (.nd .lf 147 oF .lf)) 148 ⟨.int .u64,1,8,5,.int .u64 0,[]⟩ (.nd (.nd (.nd .lf 149 oF .lf) 150 oF .lf) 151 oF (.nd .lf 152 ⟨.strct [(0,9),(1,27)],2,40,16,.agg #[.string .empty,.slice none 0 0],[]⟩ .lf))) 153 ⟨.strct [(0,9),(1,27)],2,40,16,.agg #[.string .empty,.slice none 0 0],[]⟩ (.nd (.nd (.nd (.nd .lf 154 ⟨.arr 2 3,2,16,38,.agg #[.int .i64 0,.int .i64 0],[]⟩ .lf) 155 ⟨.map 3 154,1,8,999,.map none,[]⟩ .lf) 156 oF (.nd .lf 157 oF .lf)) 158 oF (.nd (.nd (.nd .lf 159 oF .lf) 160 ⟨.map 9 3,1,8,999,.map none,[]⟩ .lf) 161 oF (.nd .lf 162 ⟨.slice 164,1,24,40,.slice none 0 0,[]⟩ .lf)))))
def tyT4:BTr:=(.nd (.nd (.nd (.nd (.nd (.nd .lf 164 ⟨.strct [(0,3),(1,3)],2,16,39,.agg #[.int .i64 0,.int .i64 0],[]⟩ .lf) 165 oF .lf) 166 ⟨.oth,1,0,999,.tuple #[.int .i64 0,.int .i64 0,.int .i64 0],[]⟩ (.nd (.nd .lf 167 oF .lf) 168 ⟨.int .i64,1,8,999,.int .i64 0,[]⟩ .lf)) 169 ⟨.oth,1,0,999,.tuple #[.int .i64 0,.int .i64 0],[]⟩ (.nd (.nd (.nd .lf 170 oF .lf) 171 oF .lf) 172 oF (.nd .lf 173 oF .lf))) 174 oF (.nd (.nd (.nd (.nd .lf 175 ⟨.int .u32,1,4,4,.int .u32 0,[]⟩ .lf) 176 oF .lf) 177 ⟨.int .u64,1,8,5,.int .u64 0,[]⟩ (.nd .lf 178 oF .lf)) 179 ⟨.slice 5,1,24,41,.slice none 0 0,[]⟩ (.nd (.nd (.nd .lf 180 ⟨.slice 25,1,24,42,.slice none 0 0,[]⟩ .lf) 181 oF .lf) 182 oF (.nd .lf 183 oF .lf)))) 184 oF (.nd (.nd (.nd (.nd (.nd .lf 185 oF .lf) 186 ⟨.int .u64,1,8,999,.int .u64 0,[]⟩ .lf) 187 oF (.nd .lf 188 oF .lf)) 189 oF (.nd (.nd (.nd .lf 190 ⟨.oth,1,8,999,.pointer none,[]⟩ .lf) 191 oF .lf) 192 oF (.nd .lf 193 oF .lf))) 194 oF (.nd (.nd (.nd (.nd .lf 195 oF .lf) 196 oF .lf) 197 ⟨.strct [(0,180),(1,25),(2,25),(3,25),(4,25),(5,180)],6,144,43,.agg #[.slice none 0 0,.slice none 0 0,.slice none 0 0,.slice none 0 0,.slice none 0 0,.slice none 0 0],[]⟩ (.nd .lf 198 ⟨.strct [(0,180),(1,25),(2,25),(3,25),(4,25),(5,180)],6,144,43,.agg #[.slice none 0 0,.slice none 0 0,.slice none 0 0,.slice none 0 0,.slice none 0 0,.slice none 0 0],[]⟩ .lf)) 199 oF (.nd (.nd (.nd .lf 200 ⟨.oth,1,8,999,.pointer none,[]⟩ .lf) 201 ⟨.slice 25,1,24,42,.slice none 0 0,[]⟩ .lf) 202 ⟨.iface,1,16,999,.nilIface,[]⟩ (.nd .lf 203 ⟨.iface,1,16,999,.nilIface,[]⟩ .lf)))))
def tyT5:BTr:=(.nd (.nd (.nd (.nd (.nd (.nd .lf 205 oF .lf) 206 oF .lf) 207 oF (.nd (.nd .lf 208 oF .lf) 209 ⟨.oth,1,8,999,.pointer none,[]⟩ .lf)) 210 ⟨.oth,1,0,999,.tuple #[.int .i64 0,.int .i64 0],[]⟩ (.nd (.nd (.nd .lf 211 oF .lf) 212 oF .lf) 213 oF (.nd .lf 214 ⟨.oth,1,8,999,.pointer none,[]⟩ .lf))) 215 ⟨.strct [(0,3),(1,3)],2,16,44,.agg #[.int .i64 0,.int .i64 0],[]⟩ (.nd (.nd (.nd (.nd .lf 216 ⟨.strct [(0,3),(1,3)],2,16,44,.agg #[.int .i64 0,.int .i64 0],[]⟩ .lf) 217 oF .lf) 218 ⟨.slice 216,1,24,45,.slice none 0 0,[]⟩ (.nd .lf 219 ⟨.oth,1,8,999,.pointer none,[]⟩ .lf)) 220 oF (.nd (.nd (.nd .lf 221 oF .lf) 222 oF .lf) 223 oF (.nd .lf 224 oF .lf)))) 225 oF (.nd (.nd (.nd (.nd (.nd .lf 226 oF .lf) 227 ⟨.oth,1,0,999,.tuple #[.int .u64 0,.int .u64 0],[]⟩ .lf) 228 oF (.nd .lf 229 oF .lf)) 230 ⟨.oth,1,0,999,.tuple #[.int .u32 0,.int .u32 0],[]⟩ (.nd (.nd (.nd .lf 231 oF .lf) 232 ⟨.oth,1,0,999,.tuple #[.int .u64 0,.int .u64 0],[]⟩ .lf) 233 oF (.nd .lf 234 oF .lf))) 235 ⟨.strct [(0,17),(1,17),(2,17),(3,9)],4,40,999,.agg #[.pointer none,.pointer none,.pointer none,.string .empty],[]⟩ (.nd (.nd (.nd (.nd .lf 236 ⟨.strct [(0,17),(1,17),(2,17),(3,9)],4,40,999,.agg #[.pointer none,.pointer none,.pointer none,.string .empty],[]⟩ .lf) 237 ⟨.arr 0 16,0,0,999,.agg #[],[]⟩ .lf) 238 ⟨.strct [(0,237)],0,0,999,.agg #[],[]⟩ (.nd .lf 239 ⟨.strct [(0,237)],0,0,999,.agg #[],[]⟩ .lf)) 240 ⟨.int .u8,1,1,999,.int .u8 0,[]⟩ (.nd (.nd (.nd .lf 241 ⟨.int .u8,1,1,999,.int .u8 0,[]⟩ .lf) 242 oF .lf) 243 ⟨.oth,1,8,999,.pointer none,[]⟩ (.nd .lf 244 ⟨.int .i32,1,4,999,.int .i32 0,[]⟩ .lf)))))
def tyT6:BTr:=(.nd (.nd .lf 246 ⟨.strct [(0,12),(1,12),(2,175),(3,240),(4,5),(5,5),(6,241),(7,242),(8,243),(9,244),(10,245)],11,48,999,.agg #[.int .u64 0,.int .u64 0,.int .u32 0,.int .u8 0,.int .u8 0,.int .u8 0,.int .u8 0,.nilFunc,.pointer none,.int .i32 0,.int .i32 0],[]⟩ .lf) 247 ⟨.strct [(0,12),(1,12),(2,175),(3,240),(4,5),(5,5),(6,241),(7,242),(8,243),(9,244),(10,245)],11,48,999,.agg #[.int .u64 0,.int .u64 0,.int .u32 0,.int .u8 0,.int .u8 0,.int .u8 0,.int .u8 0,.nilFunc,.pointer none,.int .i32 0,.int .i32 0],[]⟩ .lf)
def tyTree:BTr:=(.nd (.nd tyT0 40 oF (.nd tyT1 81 oF tyT2)) 122 oF (.nd (.nd tyT3 163 ⟨.strct [(0,3),(1,3)],2,16,39,.agg #[.int .i64 0,.int .i64 0],[]⟩ tyT4) 204 oF (.nd tyT5 245 ⟨.int .i32,1,4,999,.int .i32 0,[]⟩ tyT6)))
theorem tyTree_chk:tyTree.chk Proofs.Tryz.prog=true:=by kernel_rfl
end Go.SX
namespace Go.SX
open Go.XK Go.RowKit
theorem KeyOK.pair {P:Program} {kt e:TypeId} (h:P.underlying kt=some (.array 2 e)) (he:P.underlying e=some .string) {z:Value} {b:Nat} (hi:Inf P e z 1 b):KeyOK P kt (fun p:ByteArray×ByteArray=>Value.agg #[.string p.1,.string p.2]):=by
 obtain⟨inf,i1,i2,i3,i4⟩:=hi.ex;have hs:∀ w,(sizeOf e).run P w=.ok 1 w:=fun w=>by simp [sizeOf,typeInfo,i1,i3]
 have hp:∀ (a c:ByteArray) (k:Nat) (v:Value) (w:World),(#[Value.string a,Value.string c]:Array Value)[k]?=some v→(part e #[.string a,.string c] k).run P w=.ok v w:=fun a c k v w hk=>by
   simp only [part,isAgg,Sem.run_bind,run_underlying he,Sem.run_pure,Result.andThen_ok];simp [hk]
 have hp0:∀ (a c:ByteArray) (w:World),(part e #[.string a,.string c] 0).run P w=.ok (.string a) w:=fun a c w=>hp a c 0 _ w rfl
 have hp1:∀ (a c:ByteArray) (w:World),(part e #[.string a,.string c] 1).run P w=.ok (.string c) w:=fun a c w=>hp a c 1 _ w rfl
 have hc:∀ (emp:Bool) (n:Nat) (a:ByteArray×ByteArray) (w:World),(Instr.checkKey emp (n+2) kt (.agg #[.string a.1,.string a.2])).run P w=.ok () w:=fun emp n a w=>by
   simp [Instr.checkKey,run_underlying h,run_underlying he,hs,hp0,hp1,List.range',List.forIn_cons]
 have hel:∀ (n:Nat) (a c:ByteArray) (w:World),(Op.equalIn (n+1) e (.string a) (.string c)).run P w=.ok (decide (a=c)) w:=fun n a c w=>by
   simp [Op.equalIn,run_underlying he,bytes_beq]
 have hq:∀ (n:Nat) (a c:ByteArray×ByteArray) (w:World),(Op.equalIn (n+2) kt (.agg #[.string a.1,.string a.2]) (.agg #[.string c.1,.string c.2])).run P w=.ok (decide (a=c)) w:=fun n a c w=>by
   obtain⟨a1,a2⟩:=a;obtain⟨c1,c2⟩:=c;unfold Op.equalIn
   by_cases q1:a1=c1<;>by_cases q2:a2=c2<;>simp [run_underlying h,hs,hp0,hp1,List.range',List.forIn_cons,hel,q1,q2]
 refine KeyOK.asked ⟨_,h,fun a b=>by simp [Instr.sameNow]⟩ (fun emp a w=>hc emp 9998 a w) (fun a b w=>?_) fun a=>?_
 ·exact hq 9998 a b w
 ·simp [Instr.sameBits,bytes_beq]
end Go.SX
namespace Go.SX
open Go.XK Go.RowKit
theorem eqV1 {ks:List Nat} {us vs:List Value} {r:Bool} (h:eqVs (1::ks) us vs=some r):∃ m n us' vs' y,us=.int .i64 m::us'∧vs=.int .i64 n::vs'∧eqVs ks us' vs'=some y∧r=(decide (m=n)&&y):=by
 unfold eqVs at h;split at h
 ·cases ‹_::_=[]›
 ·rename_i e1;cases e1;rw [Option.map_eq_some_iff]at h;obtain⟨y,h1,h2⟩:=h;exact⟨_,_,_,_,y,rfl,rfl,h1,h2.symm⟩
 ·rename_i e;cases e
 ·rename_i e;cases e
 ·cases h
theorem eqV2 {ks:List Nat} {us vs:List Value} {r:Bool} (h:eqVs (2::ks) us vs=some r):∃ m n us' vs' y,us=.string m::us'∧vs=.string n::vs'∧eqVs ks us' vs'=some y∧r=(decide (m=n)&&y):=by
 unfold eqVs at h;split at h
 ·cases ‹_::_=[]›
 ·rename_i e;cases e
 ·rename_i e1;cases e1;rw [Option.map_eq_some_iff]at h;obtain⟨y,h1,h2⟩:=h;exact⟨_,_,_,_,y,rfl,rfl,h1,h2.symm⟩
 ·rename_i e;cases e
 ·cases h
theorem eqV0 {us vs:List Value} {r:Bool} (h:eqVs [] us vs=some r):us=[]∧vs=[]∧r=true:=by
 unfold eqVs at h;split at h
 ·cases h;exact⟨rfl,rfl,rfl⟩
 ·rename_i e;cases e
 ·rename_i e;cases e
 ·rename_i e;cases e
 ·cases h
theorem eq_dyn:EqT Proofs.Tryz.prog 110 [1,1,1,1]:=by
 intro us vs r h0;obtain⟨a0,b0,us0,vs0,y0,rfl,rfl,h1,rfl⟩:=eqV1 h0;obtain⟨a1,b1,us1,vs1,y1,rfl,rfl,h2,rfl⟩:=eqV1 h1;obtain⟨a2,b2,us2,vs2,y2,rfl,rfl,h3,rfl⟩:=eqV1 h2;obtain⟨a3,b3,us3,vs3,y3,rfl,rfl,h4,rfl⟩:=eqV1 h3;obtain⟨rfl,rfl,rfl⟩:=eqV0 h4;clear h0 h1 h2 h3 h4;constructor
 ·intro x y w;simp [go_sem]
  by_cases q0:a0=b0<;>by_cases q1:a1=b1<;>by_cases q2:a2=b2<;>by_cases q3:a3=b3<;>simp [q0,q1,q2,q3]
 ·intro x y w;simp [go_sem]
  by_cases q0:a0=b0<;>by_cases q1:a1=b1<;>by_cases q2:a2=b2<;>by_cases q3:a3=b3<;>simp [q0,q1,q2,q3]
theorem toList_iff (x y:ByteArray):x.toList=y.toList↔x=y:=by
 rw [ByteArray.toList_eq,ByteArray.toList_eq];exact⟨fun h=>ByteArray.ext (Array.toList_inj.mp h),fun h=>by rw [h]⟩
theorem eq_line:EqT Proofs.Tryz.prog 43 [1,1,2,1]:=by
 intro us vs r h0;obtain⟨a0,b0,us0,vs0,y0,rfl,rfl,h1,rfl⟩:=eqV1 h0;obtain⟨a1,b1,us1,vs1,y1,rfl,rfl,h2,rfl⟩:=eqV1 h1;obtain⟨a2,b2,us2,vs2,y2,rfl,rfl,h3,rfl⟩:=eqV2 h2;obtain⟨a3,b3,us3,vs3,y3,rfl,rfl,h4,rfl⟩:=eqV1 h3;obtain⟨rfl,rfl,rfl⟩:=eqV0 h4;clear h0 h1 h2 h3 h4;constructor
 ·intro x y w;simp [go_sem]
  by_cases q0:a0=b0<;>by_cases q1:a1=b1<;>by_cases q2:a2=b2<;>by_cases q3:a3=b3<;>simp [toList_iff,q0,q1,q2,q3]
 ·intro x y w;simp [go_sem]
  by_cases q0:a0=b0<;>by_cases q1:a1=b1<;>by_cases q2:a2=b2<;>by_cases q3:a3=b3<;>simp [toList_iff,q0,q1,q2,q3]
theorem eq_var:EqT Proofs.Tryz.prog 127 [1,1,1,2,1,1]:=by
 intro us vs r h0;obtain⟨a0,b0,us0,vs0,y0,rfl,rfl,h1,rfl⟩:=eqV1 h0;obtain⟨a1,b1,us1,vs1,y1,rfl,rfl,h2,rfl⟩:=eqV1 h1;obtain⟨a2,b2,us2,vs2,y2,rfl,rfl,h3,rfl⟩:=eqV1 h2;obtain⟨a3,b3,us3,vs3,y3,rfl,rfl,h4,rfl⟩:=eqV2 h3;obtain⟨a4,b4,us4,vs4,y4,rfl,rfl,h5,rfl⟩:=eqV1 h4;obtain⟨a5,b5,us5,vs5,y5,rfl,rfl,h6,rfl⟩:=eqV1 h5;obtain⟨rfl,rfl,rfl⟩:=eqV0 h6;clear h0 h1 h2 h3 h4 h5 h6;constructor
 ·intro x y w;simp [go_sem]
  by_cases q0:a0=b0<;>by_cases q1:a1=b1<;>by_cases q2:a2=b2<;>by_cases q3:a3=b3<;>by_cases q4:a4=b4<;>by_cases q5:a5=b5<;>simp [toList_iff,q0,q1,q2,q3,q4,q5]
 ·intro x y w;simp [go_sem]
  by_cases q0:a0=b0<;>by_cases q1:a1=b1<;>by_cases q2:a2=b2<;>by_cases q3:a3=b3<;>by_cases q4:a4=b4<;>by_cases q5:a5=b5<;>simp [toList_iff,q0,q1,q2,q3,q4,q5]
def eqSp:List (Nat×List Nat):=[(110,[1,1,1,1]),(43,[1,1,2,1]),(127,[1,1,1,2,1,1])]
theorem eqSp_ok (T:Nat) (ks:List Nat) (h:lk eqSp T=some ks):EqT Proofs.Tryz.prog T ks:=by
 have:=lk_key h;simp only [eqSp,List.mem_cons,List.not_mem_nil,or_false,Prod.mk.injEq]at this;rcases this with ⟨rfl,rfl⟩|⟨rfl,rfl⟩|⟨rfl,rfl⟩
 ·exact eq_dyn
 ·exact eq_line
 ·exact eq_var
def KOK (P:Program) (T c:Nat):Prop:=KeyOK P T (TV c)
theorem key_int:KOK Proofs.Tryz.prog 3 0:=KeyOK.int (P:=Proofs.Tryz.prog) (kt:=3) (by kernel_rfl)
theorem key_str:KOK Proofs.Tryz.prog 9 1:=KeyOK.str (P:=Proofs.Tryz.prog) (kt:=9) (by kernel_rfl)
theorem inf_str:∃ z b,Inf Proofs.Tryz.prog 9 z 1 b:=⟨.string .empty,16,by unfold Inf;kernel_rfl⟩
theorem key_arr (T:Nat) (h:Proofs.Tryz.prog.underlying T=some (.array 2 9)):KOK Proofs.Tryz.prog T 37:=by
 obtain⟨z,b,hi⟩:=inf_str;exact KeyOK.pair (P:=Proofs.Tryz.prog) h (by kernel_rfl) hi
theorem key_all:∀ p∈[(3,0),(9,1),(94,37)],KeyOK Proofs.Tryz.prog p.1 (TV p.2):=by
 intro p hp;simp only [List.mem_cons,List.not_mem_nil,or_false]at hp;rcases hp with rfl|rfl|rfl
 ·exact key_int
 ·exact key_str
 ·exact key_arr _ (by kernel_rfl)
def gVars:Nat→Option SV
 |_=>none
def mtL:List (Nat×String×FuncId×Option TypeId):=[(200, "Len", 177,some 201),(200, "Less", 178,some 201),(200, "Swap", 181,some 201),(200, "Push", 180,none),(200, "Pop", 179,none)]
theorem first_ptr:Proofs.Tryz.prog.underlying 200=some (.pointer 201):=by kernel_rfl
theorem mtL_ok:∀ p∈mtL,MethOK Proofs.Tryz.prog p.1 p.2.1 p.2.2.1 p.2.2.2:=by
 intro p hp;simp only [mtL,List.mem_cons,List.not_mem_nil,or_false]at hp;rcases hp with rfl|rfl|rfl|rfl|rfl
 ·exact meth_val (by kernel_rfl) first_ptr
 ·exact meth_val (by kernel_rfl) first_ptr
 ·exact meth_val (by kernel_rfl) first_ptr
 ·exact meth_ptr (by kernel_rfl) first_ptr
 ·exact meth_ptr (by kernel_rfl) first_ptr
noncomputable def E0:En:=mkEn Proofs.Tryz.prog tyTree eqSp [(3,0),(9,1),(94,37)] mtL gVars tyTree_chk eqSp_ok key_all (by kernel_rfl) mtL_ok
end Go.SX
namespace Go.SX
open Go.XK Go.RowKit
def FOK (f:FuncId) (app:List SV→PR):Prop:=∀ args (m:Mm) (ids vs:List Value),Glob E0.G m→(∀ b,m.S b→b<m.w.heap.size)→DenL m ids args vs →
   PRok (app args) fun s=>Calls E0.P f vs.toArray m.w fun e w'=>∃ v S',e=.returned v∧Ext m.w w'∧m.le ⟨w',S'⟩∧(∀ b,S' b→b<w'.heap.size∧(m.S b∨m.w.heap.size≤b))∧Den ⟨w',S'⟩ [] s v
end Go.SX
namespace Go.Proofs
open Go.Shelf
def YtobpljbkdffkbaaGreat.lays189_ren:Go.Shelf.Ren:=⟨fun|189=>24|125=>86|257=>85|128=>116|129=>117|294=>107|295=>108|296=>109|297=>110|298=>111|299=>112|216=>113|300=>114|301=>115|328=>125|329=>126|330=>127|331=>128|332=>129|215=>119|343=>148|n=>n,fun|28=>25|3=>3|46=>148|0=>0|51=>175|53=>177|4=>4|183=>169|182=>168|131=>50|5=>5|9=>9|218=>186|222=>190|228=>209|229=>210|n=>n,fun|n=>n⟩
theorem YtobpljbkdffkbaaGreat.lays189:Go.Proofs.Lays.n189 Tryz.prog YtobpljbkdffkbaaGreat.lays189_ren:={
 mixed:=by kernel_rfl
 f125:=Tryz.func86.trans (congrArg some (by kernel_rfl))
 f128:=Tryz.func116.trans (congrArg some (by kernel_rfl))
 f129:=Tryz.func117.trans (congrArg some (by kernel_rfl))
 f189:=Tryz.func24.trans (congrArg some (by kernel_rfl))
 f215:=Tryz.func119.trans (congrArg some (by kernel_rfl))
 f216:=Tryz.func113.trans (congrArg some (by kernel_rfl))
 f257:=Tryz.func85.trans (congrArg some (by kernel_rfl))
 f294:=Tryz.func107.trans (congrArg some (by kernel_rfl))
 f295:=Tryz.func108.trans (congrArg some (by kernel_rfl))
 f296:=Tryz.func109.trans (congrArg some (by kernel_rfl))
 f297:=Tryz.func110.trans (congrArg some (by kernel_rfl))
 f298:=Tryz.func111.trans (congrArg some (by kernel_rfl))
 f299:=Tryz.func112.trans (congrArg some (by kernel_rfl))
 f300:=Tryz.func114.trans (congrArg some (by kernel_rfl))
 f301:=Tryz.func115.trans (congrArg some (by kernel_rfl))
 f328:=Tryz.func125.trans (congrArg some (by kernel_rfl))
 f329:=Tryz.func126.trans (congrArg some (by kernel_rfl))
 f330:=Tryz.func127.trans (congrArg some (by kernel_rfl))
 f331:=Tryz.func128.trans (congrArg some (by kernel_rfl))
 f332:=Tryz.func129.trans (congrArg some (by kernel_rfl))
 f343:=Tryz.func148.trans (congrArg some (by kernel_rfl))
 t0:=Tryz.underlying0
 a0:=Tryz.isAgg0
 z0:=Tryz.sizeOf0
 v0:=Tryz.zeroValue0
 t3:=Tryz.underlying3
 a3:=Tryz.isAgg3
 z3:=Tryz.sizeOf3
 v3:=Tryz.zeroValue3
 t4:=Tryz.underlying4
 a4:=Tryz.isAgg4
 z4:=Tryz.sizeOf4
 v4:=Tryz.zeroValue4
 t5:=Tryz.underlying5
 a5:=Tryz.isAgg5
 z5:=Tryz.sizeOf5
 v5:=Tryz.zeroValue5
 t9:=Tryz.underlying9
 a9:=Tryz.isAgg9
 z9:=Tryz.sizeOf9
 v9:=Tryz.zeroValue9
 t28:=Tryz.underlying25
 a28:=Tryz.isAgg25
 z28:=Tryz.sizeOf25
 v28:=Tryz.zeroValue25
 t46:=Tryz.underlying148
 a46:=Tryz.isAgg148
 z46:=Tryz.sizeOf148
 v46:=Tryz.zeroValue148
 t51:=Tryz.underlying175
 a51:=Tryz.isAgg175
 z51:=Tryz.sizeOf175
 v51:=Tryz.zeroValue175
 t53:=Tryz.underlying177
 a53:=Tryz.isAgg177
 z53:=Tryz.sizeOf177
 v53:=Tryz.zeroValue177
 t131:=Tryz.underlying50
 a131:=Tryz.isAgg50
 z131:=Tryz.sizeOf50
 v131:=Tryz.zeroValue50
 t182:=Tryz.underlying168
 a182:=Tryz.isAgg168
 z182:=Tryz.sizeOf168
 v182:=Tryz.zeroValue168
 t183:=Tryz.underlying169
 a183:=Tryz.isAgg169
 z183:=Tryz.sizeOf169
 v183:=Tryz.zeroValue169
 t218:=Tryz.underlying186
 a218:=Tryz.isAgg186
 z218:=Tryz.sizeOf186
 v218:=Tryz.zeroValue186
 t222:=Tryz.underlying190
 a222:=Tryz.isAgg190
 z222:=Tryz.sizeOf190
 v222:=Tryz.zeroValue190
 t228:=Tryz.underlying209
 a228:=Tryz.isAgg209
 z228:=Tryz.sizeOf209
 v228:=Tryz.zeroValue209
 t229:=Tryz.underlying210
 a229:=Tryz.isAgg210
 z229:=Tryz.sizeOf210
 v229:=Tryz.zeroValue210 }
def YtobpljbkdffkbaaGreat.lays20_ren:Go.Shelf.Ren:=⟨fun|20=>25|n=>n,fun|22=>25|3=>3|4=>4|0=>0|n=>n,fun|n=>n⟩
theorem YtobpljbkdffkbaaGreat.lays20:Go.Proofs.Lays2.n20 Tryz.prog YtobpljbkdffkbaaGreat.lays20_ren:={
 mixed:=by kernel_rfl
 f20:=Tryz.func25.trans (congrArg some (by kernel_rfl))
 t0:=Tryz.underlying0
 a0:=Tryz.isAgg0
 z0:=Tryz.sizeOf0
 v0:=Tryz.zeroValue0
 t3:=Tryz.underlying3
 a3:=Tryz.isAgg3
 z3:=Tryz.sizeOf3
 v3:=Tryz.zeroValue3
 t4:=Tryz.underlying4
 a4:=Tryz.isAgg4
 z4:=Tryz.sizeOf4
 v4:=Tryz.zeroValue4
 t22:=Tryz.underlying25
 a22:=Tryz.isAgg25
 z22:=Tryz.sizeOf25
 v22:=Tryz.zeroValue25
 i3:=by kernel_rfl }
end Go.Proofs
namespace Go.Proofs.YtobpljbkdffkbaaGreat
open Go.RowKit Go.XK Go.Sort
theorem sort_at (blk off cap:Nat) (zs:List Int) (w:World) (hH:Holds (Value.int .i64) w blk off zs.toArray) (hblk:blk<w.heap.size) (hsz:zs.length<4611686018427387904) :
   Calls Go.Proofs.Tryz.prog 24 #[.slice (some ⟨blk,off,none⟩) zs.length cap] w fun e w' =>
     e=.returned (.tuple #[])∧∃ n os,w'=grow (putRow (Value.int .i64) (Sort.ahead w n) blk off (zs.mergeSort fun x y=>decide (x≤y)).toArray) os:=Any.slices_Sort_int lays189 blk off cap zs w hH hblk hsz
theorem sort_none (p:Option Addr) (cap:Nat) (w:World):Calls Go.Proofs.Tryz.prog 24 #[.slice p 0 cap] w fun e w'=>e=.returned (.tuple #[])∧w'=w :=
 calls_of_every_depth fun D=>AnyS.slices_Sort_int_none_in lays189 D p cap w
theorem heap_sortO {w:World} {g n off:Nat} {os:Array Obj} {cur:Array Value} {e:TypeId} {fr:Nat×Nat} (d:Array Int) (hb:w.heap[g]?=some (.cells cur e fr)) :
   (grow (putRow (Value.int .i64) (Sort.ahead w n) g off d) os).heap[g]?=some (.cells (putCells (Value.int .i64) off d cur) e fr):=by
 have hg:g<w.heap.size:=(Array.getElem?_eq_some_iff.1 hb).1;rw [heap_grow_old _ _ (by simpa using hg)]
 simp [putRow,mapBlock,Sort.ahead,Array.getElem?_modify,hb,onCells]
theorem grown_sortO {w:World} {g n off:Nat} {os:Array Obj} (d:Array Int):w.grownBy (grow (putRow (Value.int .i64) (Sort.ahead w n) g off d) os) (some g):=by
 refine⟨rfl,rfl,rfl,by simp,fun k hk hne=>?_⟩
 rw [heap_grow_old _ _ (by simpa using hk)]
 have:g≠k:=fun e=>hne (by rw [e])
 simp [putRow,mapBlock,Sort.ahead,Array.getElem?_modify,this]
theorem sort_any (l:List Int) (v:Value) (base:Nat) (w:World) (h:OwnQ w base 3 1 v l.length (l.map (Value.int .i64))) (hm8:l.length≤140737488355328) :
   Calls Go.Proofs.Tryz.prog 24 [v].toArray w fun e w'=>e=.returned (.tuple #[])∧Mod (fun b=>v.ownBlock=some b) w w'∧OwnQ w' base 3 1 v l.length ((l.mergeSort fun x y=>decide (x≤y)).map (Value.int .i64)):=by
 have hlen:(l.mergeSort fun x y=>decide (x≤y)).length=l.length:=List.length_mergeSort ..
 obtain⟨h1,h2⟩:=h;rcases h2 with ⟨rfl,hn⟩|⟨g,o,cap,cur,rfl,hg,hh,hnc,hcm,hcs,htake⟩
 ·have hl:l=[]:=List.eq_nil_of_length_eq_zero hn;subst hl;refine(sort_none none 0 w).mono fun e w' ⟨he,hw⟩=>⟨he,?_⟩
  subst hw;exact⟨(Ext.refl _).mod _,by simp,.inl ⟨rfl,rfl⟩⟩
 ·have hlt:g<w.heap.size:=hh.lt;obtain⟨fr,hh,hfr⟩:=hh.ex;rw [Nat.mul_one]at htake hcs
  have hH:Holds (Value.int .i64) w g o l.toArray:=by
    intro j hj;have hj':j<l.length:=by simpa using hj
    have hf:w.frozen? ⟨g,o+j,none⟩=false:=by
      obtain⟨a,b⟩:=fr;simp only [World.frozen?,hh];rcases hfr with hfr|hfr
      ·cases hfr;simp
      ·simp only at hfr;simp;omega
    refine⟨?_,hf⟩;have e1:((cur.toList.drop o).take l.length)[j]?=(l.map (Value.int .i64))[j]?:=by rw [htake]
    rw [List.getElem?_take_of_lt hj',List.getElem?_drop]at e1;simp only [World.cell?,hh];simp only [Option.isSome_none,Bool.false_eq_true,if_false];rw [← Array.getElem?_toList,e1];simp [hj']
  refine(sort_at g o cap l w hH hlt (by omega)).mono fun e w' ⟨he,n,os,hw⟩=>⟨he,?_⟩
  subst hw;refine⟨Mod.of_grown (grown_sortO _) (fun k hk=>hk),by simp [hlen],.inr ⟨g,o,cap,_,rfl,hg,⟨⟨fr,heap_sortO _ hh,hfr.imp id fun h=>by simp [putCells];exact h⟩⟩,hnc,hcm,by simp [putCells];omega,?_⟩⟩
  rw [Nat.mul_one];apply List.ext_getElem?;intro j
  by_cases hj:j<l.length
  ·rw [List.getElem?_take_of_lt hj,List.getElem?_drop,Array.getElem?_toList];have hj2:o+j<cur.size:=by omega
   have hj3:j<(l.mergeSort fun x y=>decide (x≤y)).length:=by omega
   simp [putCells,hj2,hj3,hj]
  ·rw [List.getElem?_take_eq_none (by omega),List.getElem?_eq_none (by simp;omega)]
theorem compact_none (p:Option Addr) (cap:Nat) (w:World):Calls Go.Proofs.Tryz.prog 25 #[.slice p 0 cap] w fun e w'=>e=.returned (.slice p 0 cap)∧w'=w:=Any.slices_Compact_int_empty lays20 p cap w
theorem compact_at (blk off cap:Nat) (zs:List Int) (w:World) (hH:Holds (Value.int .i64) w blk off zs.toArray) (hsz:zs.length≤9223372036854775807) (hcap:zs.length≤cap) :
   Calls Go.Proofs.Tryz.prog 25 #[.slice (some ⟨blk,off,none⟩) zs.length cap] w fun e w'=>e=.returned (.slice (some ⟨blk,off,none⟩) (Lib.compact zs).length cap)∧∃ q,w'=putRow (Value.int .i64) (Sort.ahead w q) blk off (Lib.compact zs++List.replicate (zs.length-(Lib.compact zs).length) 0).toArray:=Any.slices_Compact_int lays20 blk off cap zs w hH hsz hcap
theorem compact_any (l:List Int) (v:Value) (base:Nat) (w:World) (h:OwnQ w base 3 1 v l.length (l.map (Value.int .i64))) (hm8:l.length≤140737488355328) :
   Calls Go.Proofs.Tryz.prog 25 [v].toArray w fun e w'=>∃ v',e=.returned v'∧Mod (fun b=>v.ownBlock=some b) w w'∧OwnQ w' base 3 1 v' (Lib.compact l).length ((Lib.compact l).map (Value.int .i64))∧∀ b,SX.blkOf v'=some b→v.ownBlock=some b:=by
 have hle:=Lib.compact_length_le l;obtain⟨h1,h2⟩:=h;rcases h2 with ⟨rfl,hn⟩|⟨g,o,cap,cur,rfl,hg,hh,hnc,hcm,hcs,htake⟩
 ·have hl:l=[]:=List.eq_nil_of_length_eq_zero hn;subst hl;refine(compact_none none 0 w).mono fun e w' ⟨he,hw⟩=>⟨_,he,?_⟩
  subst hw;exact⟨(Ext.refl _).mod _,⟨by simp,.inl ⟨rfl,by have:=hle;simpa using this⟩⟩,fun b hb=>by cases hb⟩
 ·obtain⟨fr,hh,hfr⟩:=hh.ex;rw [Nat.mul_one]at htake hcs
  have hH:Holds (Value.int .i64) w g o l.toArray:=by
    intro j hj;have hj':j<l.length:=by simpa using hj
    have hf:w.frozen? ⟨g,o+j,none⟩=false:=by
      obtain⟨a,b⟩:=fr;simp only [World.frozen?,hh];rcases hfr with hfr|hfr
      ·cases hfr;simp
      ·simp only at hfr;simp;omega
    refine⟨?_,hf⟩;have e1:((cur.toList.drop o).take l.length)[j]?=(l.map (Value.int .i64))[j]?:=by rw [htake]
    rw [List.getElem?_take_of_lt hj',List.getElem?_drop]at e1;simp only [World.cell?,hh];simp only [Option.isSome_none,Bool.false_eq_true,if_false];rw [← Array.getElem?_toList,e1];simp [hj']
  refine(compact_at g o cap l w hH (by omega) hnc).mono fun e w' ⟨he,n,hw⟩=>⟨_,he,?_⟩
  generalize hD:(Lib.compact l++List.replicate (l.length-(Lib.compact l).length) 0)=D at hw;have hD1:∀ j (h:j<(Lib.compact l).length),D[j]?=some (Lib.compact l)[j]:=fun j h=>by rw [← hD,List.getElem?_append_left h,List.getElem?_eq_getElem h]
  have hDl:D.length=l.length:=by rw [← hD];simp;omega
  rw [← grow_empty (putRow _ _ _ _ _)]at hw;subst hw;refine⟨Mod.of_grown (grown_sortO _) (fun k hk=>hk),⟨by simp,.inr ⟨g,o,cap,_,rfl,hg,⟨⟨fr,heap_sortO _ hh,hfr.imp id fun h=>by simp [putCells];exact h⟩⟩,by omega,hcm,by simp [putCells];omega,?_⟩⟩,fun b hb=>hb⟩
  rw [Nat.mul_one];apply List.ext_getElem?;intro j
  by_cases hj:j<(Lib.compact l).length
  ·rw [List.getElem?_take_of_lt hj,List.getElem?_drop,Array.getElem?_toList];have hj2:o+j<cur.size:=by omega
   have hj3:j<D.length:=by omega
   have hj4:=hD1 j hj;rw [List.getElem?_eq_getElem hj3]at hj4;have hj5:=Option.some.inj hj4;simp [putCells,hj2,hj3,hj,hj5]
  ·rw [List.getElem?_take_eq_none (by omega),List.getElem?_eq_none (by simp;omega)]
end Go.Proofs.YtobpljbkdffkbaaGreat
namespace Go.SX
open Go.XK Go.RowKit
def isort (l:List Int):List (TabT 0):=l.mergeSort fun x y=>decide (x≤y)
def icomp (l:List Int):List (TabT 0):=(Lib.compact l:List Int)
theorem icomp_mem {l:List Int} {x:Int} (h:x∈(Lib.compact l:List Int)):x∈l:=by
 unfold Lib.compact Lib.compactUpTo at h;obtain⟨j,h1,rfl⟩:=List.mem_map.1 h;have hj:=List.mem_range.1 (List.mem_filter.1 h1).1;rw [getElem!_pos l.toArray j (by simpa using hj)]
 simp
section
variable {m:Mm} {ids:List Value}
theorem elts_int {l:List (TabT 0)} {uss:List (List Value)} (h:Elts (KT 0) (TabD 0) m l uss):uss.flatten=l.map (Value.int .i64)∧∀ x∈l,InR x:=by
 have key:∀ (l:List Int) (uss:List (List Value)),Elts 1 TD0 m l uss→uss.flatten=l.map (Value.int .i64)∧∀ x∈l,InR x:=by
   intro l
   induction l with
   |nil=>intro uss h;obtain⟨h1,_⟩:=h;cases uss with
     |nil=>exact⟨rfl,fun _ h=>by cases h⟩
     |cons=>simp at h1
   |cons x l ih =>
     intro uss h;obtain⟨h1,h2,h3⟩:=h
     cases uss with
     |nil=>simp at h1
     |cons us uss =>
       obtain⟨e1,e2⟩:=ih uss ⟨by simpa using h1,fun q hq=>h2 q (List.mem_cons_of_mem _ hq),fun i y hy=>by simpa using h3 (i+1) y (by simpa using hy)⟩
       obtain⟨us',h4,h5⟩:=h3 0 x rfl;cases h4;obtain⟨u,r,rfl,⟨rfl,h6⟩,h7⟩:=h5;cases(show r=[]from h7);refine⟨by rw [List.flatten_cons,e1];rfl,fun y hy=>?_⟩
       rcases List.mem_cons.1 hy with rfl|hy
       ·exact h6
       ·exact e2 y hy
 exact key l uss h
theorem int_elts {l:List Int} (h:∀ x∈l,InR x):Elts (KT 0) (TabD 0) m l (l.map fun x=>[Value.int .i64 x])∧(l.map fun x=>[Value.int .i64 x]).flatten=l.map (Value.int .i64):=by
 refine⟨⟨List.length_map ..,fun q hq=>?_,fun i x hx=>?_⟩,?_⟩
 ·obtain⟨x,_,rfl⟩:=List.mem_map.1 hq;rfl
 ·refine⟨[.int .i64 x],by rw [List.getElem?_map];exact congrArg _ hx,_,[],rfl,⟨rfl,h x (List.mem_of_getElem? hx)⟩,rfl⟩
 ·induction l with
  |nil=>rfl
  |cons x l ih=>rw [List.map_cons,List.flatten_cons,List.map_cons,ih fun y hy=>h y (List.mem_cons_of_mem _ hy)];rfl
theorem heap_one {i:Nat} {hb:HB} (hs:HSat m ids i hb) (hf:∀ b,Fp ids i hb b→¬ m.S b):HeapOK m ids [(i,hb)]:=by
 have one:∀ j h,lk [(i,hb)] j=some h→j=i∧h=hb:=fun j h hl=>by
   rw [lk_cons]at hl;split at hl
   ·rename_i e;cases hl;exact⟨e.symm,rfl⟩
   ·cases hl
 refine⟨fun j h hl=>?_,fun j h k h' hl hl' hne=>?_,fun j h b hl=>?_⟩
 ·obtain⟨rfl,rfl⟩:=one j h hl;exact hs
 ·obtain⟨rfl,_⟩:=one j h hl;obtain⟨rfl,_⟩:=one k h' hl';exact absurd rfl hne
 ·obtain⟨rfl,rfl⟩:=one j h hl;exact hf b
theorem own_blk {v:Value} {e:TypeId} {K n base:Nat} {w:World} {xs:List Value} (h:OwnQ w base e K v n xs) {b:Nat}:v.ownBlock=some b↔blkOf v=some b:=by
 obtain⟨ad,_,rfl,_⟩:=h.reads.len;cases ad<;>simp [Value.ownBlock,blkOf]
end
theorem hc_sort (z:Option Bool) (l:List (TabT 0)):HC E0 24 1 [.osl 0] [(0,.arr 3 z 0 l)] (fun s H n=>s=.tup []∧H=[(0,.arr 3 none 0 (isort l))]∧n=1):=by
 refine⟨by unfold FnOK;kernel_rfl,fun m ids vs hG hm hn hH hv=>?_⟩
 obtain⟨v,uss,h1,h2,h3,_,h5⟩:=hH.sat 0 _ rfl;obtain⟨e1,e2⟩:=elts_int h3;rw [e1]at h2
 have hvs:vs=[v]:=by
   rw [DenL]at hv;obtain⟨u,r,rfl,q1,q2⟩:=hv;rw [DenL]at q2;subst q2;rw [Den]at q1;rw [q1.1]at h1;cases h1;rfl
 subst hvs;have hB:l.length≤140737488355328:=len_le h5;refine(Go.Proofs.YtobpljbkdffkbaaGreat.sort_any l v 0 m.w h2 hB).mono fun e w' ⟨he,hmod,how⟩=>?_
 have hT:∀ b,v.ownBlock=some b→HT ids [(0,HB.arr 3 z 0 l)] b:=fun b hb=>⟨0,_,rfl,rfl,v,h1,hasB_of ((own_blk h2).1 hb)⟩
 have hnS:∀ b,v.ownBlock=some b→¬ m.S b:=fun b hb=>by
   obtain⟨i,hb0,hi,hf⟩:=hT b hb;exact hH.fpS i hb0 b hi hf
 have hin:∀ x∈isort l,InR x:=fun x hx=>e2 x (List.mem_mergeSort.1 hx)
 obtain⟨k1,k2⟩:=int_elts (m:=⟨w',m.S⟩) hin;have hlen:(isort l).length=l.length:=List.length_mergeSort ..;refine⟨.tuple #[],m.S,ids,.tup [],_,he,⟨rfl,rfl,hn⟩,⟨hmod.os,hmod.tape,hmod.output,hmod.size,fun k hk hne=>hmod.block k hk fun e=>hne (hT k e)⟩,⟨fun b hb=>⟨hb,hmod.block b (hm b hb) fun e=>hnS b e hb⟩,hmod.size⟩,fun b hb=>⟨Nat.lt_of_lt_of_le (hm b hb) hmod.size,.inl hb⟩,fun _ _=>rfl,by omega,heap_one ⟨v,_,h1,?_,k1,trivial,by rw [hlen];exact h5⟩ fun b hf=>?_,fun b ⟨i,hb0,hi,hf⟩=>.inl ?_,by rw [Den];exact⟨[],rfl,by rw [DenL]⟩⟩
 ·rw [k2,hlen];exact how
 ·exact hH.fpS 0 _ b rfl hf
 ·rw [lk_cons]at hi;split at hi
  ·rename_i e;cases hi;subst e;exact⟨0,_,rfl,hf⟩
  ·cases hi
theorem hc_compact (z:Option Bool) (l:List (TabT 0)):HC E0 25 1 [.osl 0] [(0,.arr 3 z 0 l)] (fun s H n=>s=.osl 1∧H=[(1,.arr 3 none 0 (icomp l))]∧n=2):=by
 refine⟨by unfold FnOK;kernel_rfl,fun m ids vs hG hm hn hH hv=>?_⟩
 obtain⟨v,uss,h1,h2,h3,_,h5⟩:=hH.sat 0 _ rfl;obtain⟨e1,e2⟩:=elts_int h3;rw [e1]at h2
 have hvs:vs=[v]:=by
   rw [DenL]at hv;obtain⟨u,r,rfl,q1,q2⟩:=hv;rw [DenL]at q2;subst q2;rw [Den]at q1;rw [q1.1]at h1;cases h1;rfl
 subst hvs;have hB:l.length≤140737488355328:=len_le h5;refine(Go.Proofs.YtobpljbkdffkbaaGreat.compact_any l v 0 m.w h2 hB).mono fun e w' ⟨v',he,hmod,how,hbl⟩=>?_
 have hT:∀ b,v.ownBlock=some b→HT ids [(0,HB.arr 3 z 0 l)] b:=fun b hb=>⟨0,_,rfl,rfl,v,h1,hasB_of ((own_blk h2).1 hb)⟩
 have hnS:∀ b,v.ownBlock=some b→¬ m.S b:=fun b hb=>by
   obtain⟨i,hb0,hi,hf⟩:=hT b hb;exact hH.fpS i hb0 b hi hf
 have hin:∀ x∈icomp l,InR x:=fun x hx=>e2 x (icomp_mem hx)
 obtain⟨k1,k2⟩:=int_elts (m:=⟨w',m.S⟩) hin;have hlen:(icomp l).length≤l.length:=Lib.compact_length_le (α:=Int) l;have hid:(ids++[v'])[1]?=some v':=by rw [List.getElem?_append_right (by omega),hn];rfl
 have hfp:∀ b,Fp (ids++[v']) 1 (HB.arr 3 none 0 (icomp l)) b→v.ownBlock=some b:=fun b ⟨_,u,q1,q2⟩=>by
   rw [hid]at q1;cases q1;exact hbl b (hasB_one (own_one how) q2)
 refine⟨v',m.S,ids++[v'],.osl 1,_,he,⟨rfl,rfl,by simp [hn]⟩,⟨hmod.os,hmod.tape,hmod.output,hmod.size,fun k hk hne=>hmod.block k hk fun e=>hne (hT k e)⟩,⟨fun b hb=>⟨hb,hmod.block b (hm b hb) fun e=>hnS b e hb⟩,hmod.size⟩,fun b hb=>⟨Nat.lt_of_lt_of_le (hm b hb) hmod.size,.inl hb⟩,fun i hi=>by rw [List.getElem?_append_left (by omega)],by simp [hn],heap_one ⟨v',_,hid,?_,k1,trivial,Nat.le_trans (Nat.mul_le_mul_right _ hlen) h5⟩ fun b hf=>hnS b (hfp b hf),fun b ⟨i,hb0,hi,hf⟩=>.inl ?_,by rw [Den];exact⟨hid,own_one how⟩⟩
 ·rw [k2];exact how
 ·rw [lk_cons]at hi;split at hi
  ·rename_i e;cases hi;subst e;exact hT b (hfp b hf)
  ·cases hi
end Go.SX
namespace Go.SX
open Go.XK Go.RowKit Go.ChangeShapes Go.WideShapes
def mm0 (W:World):Mm:=⟨W,fun b=>b<W.heap.size⟩
theorem DL.append {m:Mm}:∀ {a b:List CP} {us vs:List Value},DL a m us→DL b m vs→DL (a++b) m (us++vs)
 |[],_,_,_,h,k=>by rw [DL]at h;subst h;exact k
 |_::_,_,_,_,⟨u,us',h1,h2,h3⟩,k=>⟨u,us'++_,by rw [h1];rfl,h2,DL.append h3 k⟩
theorem DL.field {a r:List CP} {m:Mm} {cs:List Value} {o k:Nat} (h:DL a m ((cs.drop o).take k)) (h2:DL r m (cs.drop (o+k))):DL (a++r) m (cs.drop o):=by
 have e:cs.drop o=(cs.drop o).take k++cs.drop (o+k):=by rw [← List.drop_drop,List.take_append_drop]
 rw [e];exact h.append h2
theorem DL.last {m:Mm} {cs:List Value} {K:Nat} (h:cs.length=K):DL [] m (cs.drop K):=by rw [DL,← h,List.drop_length]
abbrev bulk {H:Type} (d:DataW H):Nat:=Go.Proofs.YtobpljbkdffkbaaGreat.Rows.uptoBulk d
abbrev bulks {H:Type} (l:List (DataW H)):Nat:=Go.Proofs.YtobpljbkdffkbaaGreat.Rows.uptoBulkAll l
theorem bulk_pos {H:Type} (d:DataW H):1≤bulk d:=by
 cases d with
 |lit l=>cases l<;>simp [bulk,Go.Proofs.YtobpljbkdffkbaaGreat.Rows.uptoBulk]
 |_=>simp [bulk,Go.Proofs.YtobpljbkdffkbaaGreat.Rows.uptoBulk]
theorem bulk_part {H:Type} {d:DataW H} {l:List (DataW H)} (h:d∈l):bulk d≤bulks l:=by
 induction l with
 |nil=>cases h
 |cons x r ih =>
   simp only [bulks,Go.Proofs.YtobpljbkdffkbaaGreat.Rows.uptoBulkAll];rcases List.mem_cons.1 h with e|e
   ·subst e;exact Nat.le_add_right _ _
   ·exact Nat.le_trans (ih e) (Nat.le_add_left _ _)
theorem bulks_sum {H:Type} (l:List (DataW H)):bulks l=(l.map bulk).sum:=by
 induction l with
 |nil=>rfl
 |cons x r ih=>simp only [bulks,Go.Proofs.YtobpljbkdffkbaaGreat.Rows.uptoBulkAll,List.map_cons,List.sum_cons]at ih ⊢;rw [ih]
theorem bulk_len {H:Type} (l:List (DataW H)):l.length≤bulks l:=by
 induction l with
 |nil=>simp [bulks,Go.Proofs.YtobpljbkdffkbaaGreat.Rows.uptoBulkAll]
 |cons x r ih =>
   have:=bulk_pos x;simp only [bulks,bulk,Go.Proofs.YtobpljbkdffkbaaGreat.Rows.uptoBulkAll,List.length_cons]at ih this ⊢;omega
section
variable {H:Type} (enc:TypeId×Value→H) (P:Program) (W:World) (base:Nat)
def RdQ (T:TypeId) {α:Type} (K:Nat) (D:α→List CP) (Q:α→Nat→Prop):Prop :=
 ∀ (held:Bool) (n:Nat) (cs:List Value) (x:DataW H×List MemPlace),cs.length=K→DataW.trod enc P W base (fun _=>true) held n T cs=some x→bulk x.1≤1048576→∃ y,DL (D y) (mm0 W) cs∧Q y (bulk x.1)
def QT {α:Type} (_:α) (_:Nat):Prop:=True
def QS (s:ByteArray) (N:Nat):Prop:=s.size+1≤N
def QL {α:Type} (Q:α→Nat→Prop) (l:List α) (N:Nat):Prop:=∃ ns:List Nat,ns.length=l.length∧ns.sum+1≤N∧∀ (i:Nat) (h:i<l.length) (h':i<ns.length),Q l[i] ns[i]∧1≤ns[i]
variable {enc P W base}
theorem QS.mono {s:ByteArray} {n m:Nat} (h:QS s n) (k:n+1≤m):QS s m:=by unfold QS at *;omega
theorem QL.mono {α:Type} {Q:α→Nat→Prop} {l:List α} {n m:Nat} (h:QL Q l n) (k:n+1≤m):QL Q l m:=by
 obtain⟨ns,h1,h2,h3⟩:=h;exact⟨ns,h1,by omega,h3⟩
theorem QT.mono {α:Type} {y:α} {n m:Nat} (_:QT y n) (_:n+1≤m):QT y m:=trivial
theorem rd_int {T:TypeId} (hT:P.underlying T=some (.int .i64)):RdQ enc P W base T 1 (fun y=>[CP.int y]) QT:=by
 intro held n cs x _ h _;obtain⟨k,rfl,_,hw⟩:=DataW.trod_int hT h;simp only [Lit.wf,Bool.and_eq_true,decide_eq_true_eq]at hw;exact⟨k,⟨_,_,rfl,⟨rfl,hw⟩,rfl⟩,trivial⟩
theorem rd_bool {T:TypeId} (hT:P.underlying T=some .bool):RdQ enc P W base T 1 (fun y=>[CP.bool y]) QT:=by
 intro held n cs x _ h _;obtain⟨k,rfl,_⟩:=DataW.trod_bool hT h;exact⟨k,⟨_,_,rfl,rfl,rfl⟩,trivial⟩
theorem rd_str {T:TypeId} (hT:P.underlying T=some .string):RdQ enc P W base T 1 (fun y=>[CP.str y]) QS:=by
 intro held n cs x _ h hb;obtain⟨s,rfl,rfl,_⟩:=DataW.trod_string hT h
 have e:bulk (DataW.lit (H:=H) (.string s.data.toList))=s.size+1:=by
   show Go.Proofs.YtobpljbkdffkbaaGreat.Rows.uptoBulk _=_;rw [Go.Proofs.YtobpljbkdffkbaaGreat.Rows.uptoBulk];rfl
 refine⟨s,⟨_,_,rfl,⟨rfl,?_⟩,rfl⟩,by show s.size+1≤bulk (DataW.lit (H:=H) (.string s.data.toList));omega⟩
 have:bulk (DataW.lit (H:=H) (.string s.data.toList))≤1048576:=hb;unfold STRMAX;omega
theorem cell_lt {w:World} {b o:Nat} {u:Value} (h:w.cell? ⟨b,o,none⟩=some u):b<w.heap.size:=by
 unfold World.cell? at h;rcases Nat.lt_or_ge b w.heap.size with hb|hb
 ·exact hb
 ·simp [Array.getElem?_eq_none hb]at h
theorem rd_slice {T e:TypeId} {α:Type} {K B:Nat} {D:α→List CP} {Q:α→Nat→Prop} (hT:P.underlying T=some (.slice e)) (hK:P.cellsOf e=K) (hpos:0<K) (hB:B≤1000) (hel:RdQ enc P W base e K D Q) :
   RdQ enc P W base T 1 (fun l=>[CP.lst K B D l]) (QL Q):=by
 intro held n cs x _ h hb;subst hK;rcases Go.Deep.open_slice hT h with ⟨rfl,rfl⟩|⟨a,len,cap,m,n,Dt,Pl,rfl,_,hl,hm,hmm,hx,hi⟩
 ·refine⟨[],⟨_,_,rfl,⟨[],⟨by simp,.inl ⟨⟨_,rfl⟩,rfl⟩⟩,Elts.nil,fun h=>absurd rfl h,trivial,by simp⟩,rfl⟩,[],rfl,?_,fun i h=>absurd h (Nat.not_lt_zero i)⟩
  exact bulk_pos _
 ·simp only [if_true]at hmm
  have hbk:((List.range len).map fun i=>bulk (Dt i)).sum+1≤bulk x.1:=by
    rw [hx];simp only [bulk,Go.Proofs.YtobpljbkdffkbaaGreat.Rows.uptoBulk];have:=bulks_sum ((List.range len).map Dt);rw [List.map_map]at this;simp only [bulks]at this;have e2:(List.map ((fun d=>Go.Proofs.YtobpljbkdffkbaaGreat.Rows.uptoBulk d) ∘ Dt) (List.range len)).sum=((List.range len).map fun i=>Go.Proofs.YtobpljbkdffkbaaGreat.Rows.uptoBulk (Dt i)).sum:=rfl
    rw [e2]at this;omega
  have hmem:∀ i,i<len→bulk (Dt i)≤1048576:=fun i hil=>by
    have h1:bulk (Dt i)≤((List.range len).map fun i=>bulk (Dt i)).sum:=by
      have:=bulk_part (d:=Dt i) (l:=(List.range len).map Dt) (List.mem_map.2 ⟨i,List.mem_range.2 hil,rfl⟩);rw [bulks_sum,List.map_map]at this;exact this
    omega
  have hlen:len≤1048576:=by
    have h1:=bulk_len ((List.range len).map Dt);rw [bulks_sum,List.map_map]at h1;have h2:len≤((List.range len).map fun i=>bulk (Dt i)).sum:=by rw [List.length_map,List.length_range]at h1;exact h1
    omega
  by_cases hc:cap=0
  ·subst hc;obtain rfl:len=0:=by omega
   exact⟨[],⟨_,_,rfl,⟨[],⟨by simp,.inl ⟨⟨_,rfl⟩,rfl⟩⟩,Elts.nil,fun h=>absurd rfl h,trivial,by simp⟩,rfl⟩,[],rfl,by simpa using bulk_pos x.1,fun i h=>absurd h (Nat.not_lt_zero i)⟩
  have hs:a.spot=none:=by
    obtain⟨cs',h1,_⟩:=hi 0 (by omega)
    obtain⟨_,h3,h4⟩:=World.cells?_some h1;have:=h4 0 hpos;rw [Nat.zero_mul,show(a.add 0).add 0=a from rfl]at this;rw [List.getElem?_eq_getElem (by omega)]at this
    unfold World.cell? at this
    cases hsp:a.spot with
    |none=>rfl
    |some s =>
      rw [hsp]at this;split at this<;>simp at this
  obtain⟨b,o,s⟩:=a;simp only at hs;subst hs
  obtain⟨l,hll,hq⟩:=list_of (α:=List Value×α) (Q:=fun i p=>p.1.length=P.cellsOf e∧(∀ j,j<P.cellsOf e→W.cell? ⟨b,o+(i*P.cellsOf e+j),none⟩=p.1[j]?)∧DL (D p.2) (mm0 W) p.1∧Q p.2 (bulk (Dt i))) len fun i hil=>by
    obtain⟨cs',h1,h2⟩:=hi i (by omega)
    obtain⟨_,h3,h4⟩:=World.cells?_some h1;obtain⟨y,h5,h6⟩:=hel held n cs' _ h3 h2 (hmem i hil);exact⟨(cs',y),h3,fun j hj=>by rw [← h4 j hj,Go.Deep.add_add,Addr.add_mid],h5,h6⟩
  subst hll
  have hlk:∀ c∈l.map (·.1),c.length=P.cellsOf e:=fun c hc=>by
    obtain⟨p,hp,rfl⟩:=List.mem_map.1 hc;obtain⟨i,hi',rfl⟩:=List.getElem_of_mem hp;exact(hq i hi').1
  have hat:At W b o (l.map (·.1)).flatten:=fun j u hj=>by
    have hE:Elts (P.cellsOf e) D (mm0 W) (l.map (·.2)) (l.map (·.1)):=⟨by simp,hlk,fun i x hx=>by
      rw [List.getElem?_map]at hx
      cases hli:l[i]? with
      |none=>rw [hli]at hx;cases hx
      |some p =>
        rw [hli]at hx;obtain⟨hi',rfl⟩:=List.getElem?_eq_some_iff.1 hli;cases hx
        exact⟨_,by rw [List.getElem?_map,hli];rfl,(hq i hi').2.2.1⟩⟩
    have hjl:j<(l.map (·.1)).length*P.cellsOf e:=by
      have:=(List.getElem?_eq_some_iff.1 hj).1;rw [hE.flat]at this;simpa using this
    have hi':j / P.cellsOf e<l.length:=Nat.div_lt_of_lt_mul (by rw [Nat.mul_comm];simpa using hjl)
    have hjm:j=j / P.cellsOf e*P.cellsOf e+j % P.cellsOf e:=(Nat.div_add_mod' j _).symm;rw [hjm,SX.flatten_get (l.map (·.1)) _ _ hlk (by simpa using hi') (Nat.mod_lt _ hpos)]at hj
    rw [hjm,(hq _ hi').2.1 _ (Nat.mod_lt _ hpos)];simpa using hj
  refine⟨l.map (·.2),⟨_,_,rfl,⟨l.map (·.1),?_,?_,?_,trivial,?_⟩,rfl⟩,(List.range l.length).map fun i=>bulk (Dt i),by simp,hbk,fun i h h'=>?_⟩
  ·have hE:∀ css:List (List Value),(∀ c∈css,c.length=P.cellsOf e)→css.flatten.length=css.length*P.cellsOf e:=by
     intro css
     induction css with
     |nil=>intro _;simp
     |cons c r ih =>
       intro hc;simp only [List.flatten_cons,List.length_append,List.length_cons,Nat.add_mul,ih fun u hu=>hc u (List.mem_cons_of_mem _ hu),hc c (List.mem_cons_self ..)]
       omega
   have hfl:=hE _ hlk;simp only [List.length_map]at hfl;exact⟨by simpa using hfl,.inr ⟨b,o,cap,by simp,by simpa using hl,hm,hat⟩⟩
  ·refine⟨by simp,hlk,fun i x hx=>?_⟩
   rw [List.getElem?_map]at hx
   cases hli:l[i]? with
   |none=>rw [hli]at hx;cases hx
   |some p =>
     rw [hli]at hx;obtain⟨hi',rfl⟩:=List.getElem?_eq_some_iff.1 hli;cases hx;exact⟨_,by rw [List.getElem?_map,hli];rfl,(hq i hi').2.2.1⟩
  ·intro hne b' hb';cases hb'
   have hi0:0<l.length:=by
     rcases Nat.eq_zero_or_pos l.length with h0|h0
     ·exact absurd (List.map_eq_nil_iff.2 (List.eq_nil_of_length_eq_zero h0)) hne
     ·exact h0
   have h1:=(hq 0 hi0).2.1 0 hpos;have h2:0<l[0].1.length:=by rw [(hq 0 hi0).1];exact hpos
   rw [List.getElem?_eq_getElem h2]at h1;exact cell_lt h1
  ·have h1:l.length*B≤1048576*1000:=Nat.mul_le_mul hlen hB;rw [List.length_map];unfold LIM;omega
  ·rw [List.length_map]at h;have e1:(l.map (·.2))[i]=l[i].2:=by simp
   have e2:((List.range l.length).map fun i=>bulk (Dt i))[i]=bulk (Dt i):=by simp
   rw [e1,e2];exact⟨(hq i h).2.2.2,bulk_pos _⟩
theorem rd_field {held:Bool} {t:TypeId} {fs:Array Field} {n:Nat} {cs:List Value} {x:DataW H×List MemPlace} (ht:P.underlying t=some (.struct fs)) (h:DataW.trod enc P W base (fun _=>true) held n t cs=some x) (j:Nat) (f:Field) (hj:fs[j]?=some f) :
   ∃ m y,DataW.trod enc P W base (fun _=>true) held m f.type ((cs.drop f.offset).take (P.cellsOf f.type))=some y∧bulk y.1+1≤bulk x.1:=by
 obtain⟨xs,m,_,hx,_,hlen,hf⟩:=DataW.trod_struct ht h;have:=hf j f hj;have hjl:j<xs.length:=by rw [hlen];exact(Array.getElem?_eq_some_iff.1 hj).1
 rw [List.getElem?_eq_getElem hjl]at this;refine⟨m,_,this,?_⟩;rw [hx];have h1:=bulk_part (d:=xs[j].1) (l:=xs.map (·.1)) (List.mem_map.2 ⟨_,List.getElem_mem hjl,rfl⟩);simp only [bulk,Go.Proofs.YtobpljbkdffkbaaGreat.Rows.uptoBulk]at h1 ⊢;simp only [bulks]at h1;omega
theorem rd_of {held:Bool} {t ft:TypeId} {fs:Array Field} {n o k K:Nat} {cs:List Value} {x:DataW H×List MemPlace} {α:Type} {D:α→List CP} {Q:α→Nat→Prop} (ht:P.underlying t=some (.struct fs)) (h:DataW.trod enc P W base (fun _=>true) held n t cs=some x) (hb:bulk x.1≤1048576)
   (hl:cs.length=K) (j:Nat) (f:Field) (hj:fs[j]?=some f) (hft:f.type=ft) (ho:f.offset=o) (hk:P.cellsOf ft=k) (hok:o+k≤K) (hr:RdQ enc P W base ft k D Q):∃ y m,DL (D y) (mm0 W) ((cs.drop o).take k)∧Q y m∧m+1≤bulk x.1:=by
 obtain⟨m,y,h1,h2⟩:=rd_field ht h j f hj;subst hft ho hk;obtain⟨z,h3,h4⟩:=hr held m _ y (by rw [List.length_take,List.length_drop];omega) h1 (by omega)
 exact⟨z,_,h3,h4,h2⟩
end
end Go.SX
