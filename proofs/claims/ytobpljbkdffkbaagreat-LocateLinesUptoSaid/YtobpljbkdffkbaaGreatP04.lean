/- A part of the proof (texts Rec2). -/
import Derived.Test.YtobpljbkdffkbaaGreatP03
set_option linter.all false
set_option maxRecDepth 100000
namespace Go.SX
open Go.XK Go.RowKit
section
variable {m:Mm} {ids:List Value} {us:List Value}
theorem DLn:DL [] m us↔DenL m ids [] us:=by rw [DL,DenL]
theorem DLc {c:CP} {s:SV} {r:List CP} {q:List SV} (h:∀ y,c.p m y↔Den m ids s y) (k:∀ us,DL r m us↔DenL m ids q us):DL (c::r) m us↔DenL m ids (s::q) us:=by
 rw [DL,DenL];constructor
 ·rintro⟨u,us',h1,h2,h3⟩;exact⟨u,us',h1,(h u).1 h2,(k us').1 h3⟩
 ·rintro⟨u,us',h1,h2,h3⟩;exact⟨u,us',h1,(h u).2 h2,(k us').2 h3⟩
theorem q_int (n:Int) (y:Value):(CP.int n).p m y↔Den m ids (.i n) y:=by rw [Den];exact Iff.rfl
theorem q_str (n:ByteArray) (y:Value):(CP.str n).p m y↔Den m ids (.str n) y:=by rw [Den];exact Iff.rfl
theorem q_bool (n:Bool) (y:Value):(CP.bool n).p m y↔Den m ids (.b n) y:=by rw [Den];exact Iff.rfl
theorem q_w8 (n:UInt8) (y:Value):(CP.w8 n).p m y↔Den m ids (.w8 n) y:=by rw [Den];exact Iff.rfl
theorem q_w32 (n:UInt32) (y:Value):(CP.w32 n).p m y↔Den m ids (.w32 n) y:=by rw [Den];exact Iff.rfl
theorem q_w64 (n:UInt64) (y:Value):(CP.w64 n).p m y↔Den m ids (.w64 n) y:=by rw [Den];exact Iff.rfl
theorem q_lst (c:Nat) (l:List (TabT c)) (y:Value):(CP.lst (KT c) (BT c) (TabD c) l).p m y↔Den m ids (.lst none c l) y:=by rw [Den];exact Iff.rfl
theorem bnd {α β:Type} {x:Option α} {f:α→Option β} {r:β} (h:x.bind f=some r):∃ a,x=some a∧f a=some r:=by cases x with|none=>cases h|some a=>exact⟨a,rfl,h⟩
theorem DLk {c:CP} {s:SV} {r:List CP} {q:List SV} (hd:DenL m ids (s::q) us) (h:∀ y,Den m ids s y→c.p m y) (k:∀ us,DenL m ids q us→DL r m us):DL (c::r) m us:=by
 rw [DenL]at hd;obtain⟨u,us',h1,h2,h3⟩:=hd;exact⟨u,us',h1,h u h2,k us' h3⟩
def ES0 (x:Int):List SV:=[.i x]
theorem ES0_iff (x:Int):DL (TD0 x) m us↔DenL m ids (ES0 x) us:=DLc (q_int _) (fun _=>DLn)
def DC0:List SV→Option Int
 |[a0]=>(asI a0).bind fun v0=>some v0
 |_=>none
theorem DC0_ok {l:List SV} {x:Int} (h:DC0 l=some x) (hd:DenL m ids l us):DL (TD0 x) m us:=by
 unfold DC0 at h;split at h
 ·obtain⟨v0,h0,h⟩:=bnd h;cases h;refine DLk hd (fun y=>asI_ok h0) (fun us hd=>?_)
  rw [DenL]at hd;rw [DL];exact hd
 ·cases h
def ES1 (x:ByteArray):List SV:=[.str x]
theorem ES1_iff (x:ByteArray):DL (TD1 x) m us↔DenL m ids (ES1 x) us:=DLc (q_str _) (fun _=>DLn)
def DC1:List SV→Option ByteArray
 |[a0]=>(asS a0).bind fun v0=>some v0
 |_=>none
theorem DC1_ok {l:List SV} {x:ByteArray} (h:DC1 l=some x) (hd:DenL m ids l us):DL (TD1 x) m us:=by
 unfold DC1 at h;split at h
 ·obtain⟨v0,h0,h⟩:=bnd h;cases h;refine DLk hd (fun y=>asS_ok h0) (fun us hd=>?_)
  rw [DenL]at hd;rw [DL];exact hd
 ·cases h
def ES2 (x:Bool):List SV:=[.b x]
theorem ES2_iff (x:Bool):DL (TD2 x) m us↔DenL m ids (ES2 x) us:=DLc (q_bool _) (fun _=>DLn)
def DC2:List SV→Option Bool
 |[a0]=>(asB a0).bind fun v0=>some v0
 |_=>none
theorem DC2_ok {l:List SV} {x:Bool} (h:DC2 l=some x) (hd:DenL m ids l us):DL (TD2 x) m us:=by
 unfold DC2 at h;split at h
 ·obtain⟨v0,h0,h⟩:=bnd h;cases h;refine DLk hd (fun y=>asB_ok h0) (fun us hd=>?_)
  rw [DenL]at hd;rw [DL];exact hd
 ·cases h
def ES3 (x:UInt8):List SV:=[.w8 x]
theorem ES3_iff (x:UInt8):DL (TD3 x) m us↔DenL m ids (ES3 x) us:=DLc (q_w8 _) (fun _=>DLn)
def DC3:List SV→Option UInt8
 |[a0]=>(as8 a0).bind fun v0=>some v0
 |_=>none
theorem DC3_ok {l:List SV} {x:UInt8} (h:DC3 l=some x) (hd:DenL m ids l us):DL (TD3 x) m us:=by
 unfold DC3 at h;split at h
 ·obtain⟨v0,h0,h⟩:=bnd h;cases h;refine DLk hd (fun y=>as8_ok h0) (fun us hd=>?_)
  rw [DenL]at hd;rw [DL];exact hd
 ·cases h
def ES4 (x:UInt32):List SV:=[.w32 x]
theorem ES4_iff (x:UInt32):DL (TD4 x) m us↔DenL m ids (ES4 x) us:=DLc (q_w32 _) (fun _=>DLn)
def DC4:List SV→Option UInt32
 |[a0]=>(as32 a0).bind fun v0=>some v0
 |_=>none
theorem DC4_ok {l:List SV} {x:UInt32} (h:DC4 l=some x) (hd:DenL m ids l us):DL (TD4 x) m us:=by
 unfold DC4 at h;split at h
 ·obtain⟨v0,h0,h⟩:=bnd h;cases h;refine DLk hd (fun y=>as32_ok h0) (fun us hd=>?_)
  rw [DenL]at hd;rw [DL];exact hd
 ·cases h
def ES5 (x:UInt64):List SV:=[.w64 x]
theorem ES5_iff (x:UInt64):DL (TD5 x) m us↔DenL m ids (ES5 x) us:=DLc (q_w64 _) (fun _=>DLn)
def DC5:List SV→Option UInt64
 |[a0]=>(as64 a0).bind fun v0=>some v0
 |_=>none
theorem DC5_ok {l:List SV} {x:UInt64} (h:DC5 l=some x) (hd:DenL m ids l us):DL (TD5 x) m us:=by
 unfold DC5 at h;split at h
 ·obtain⟨v0,h0,h⟩:=bnd h;cases h;refine DLk hd (fun y=>as64_ok h0) (fun us hd=>?_)
  rw [DenL]at hd;rw [DL];exact hd
 ·cases h
def ES6 (x:TPlaced):List SV:=[.str x.Obj,.str x.Sec,.i x.Kind,.i x.At,.i x.Size,.str x.Digest,.str x.Form]
theorem ES6_iff (x:TPlaced):DL (TD6 x) m us↔DenL m ids (ES6 x) us:=DLc (q_str _) (fun _=>DLc (q_str _) (fun _=>DLc (q_int _) (fun _=>DLc (q_int _) (fun _=>DLc (q_int _) (fun _=>DLc (q_str _) (fun _=>DLc (q_str _) (fun _=>DLn)))))))
def DC6:List SV→Option TPlaced
 |[a0,a1,a2,a3,a4,a5,a6]=>(asS a0).bind fun v0=>(asS a1).bind fun v1=>(asI a2).bind fun v2=>(asI a3).bind fun v3=>(asI a4).bind fun v4=>(asS a5).bind fun v5=>(asS a6).bind fun v6=>some ⟨v0,v1,v2,v3,v4,v5,v6⟩
 |_=>none
theorem DC6_ok {l:List SV} {x:TPlaced} (h:DC6 l=some x) (hd:DenL m ids l us):DL (TD6 x) m us:=by
 unfold DC6 at h;split at h
 ·obtain⟨v0,h0,h⟩:=bnd h;obtain⟨v1,h1,h⟩:=bnd h;obtain⟨v2,h2,h⟩:=bnd h;obtain⟨v3,h3,h⟩:=bnd h;obtain⟨v4,h4,h⟩:=bnd h;obtain⟨v5,h5,h⟩:=bnd h;obtain⟨v6,h6,h⟩:=bnd h;cases h;refine DLk hd (fun y=>asS_ok h0) (fun us hd=>?_)
  refine DLk hd (fun y=>asS_ok h1) (fun us hd=>?_)
  refine DLk hd (fun y=>asI_ok h2) (fun us hd=>?_)
  refine DLk hd (fun y=>asI_ok h3) (fun us hd=>?_)
  refine DLk hd (fun y=>asI_ok h4) (fun us hd=>?_)
  refine DLk hd (fun y=>asS_ok h5) (fun us hd=>?_)
  refine DLk hd (fun y=>asS_ok h6) (fun us hd=>?_)
  rw [DenL]at hd;rw [DL];exact hd
 ·cases h
def ES7 (x:(List TPlaced)):List SV:=[.lst none 6 x]
theorem ES7_iff (x:(List TPlaced)):DL (TD7 x) m us↔DenL m ids (ES7 x) us:=DLc (q_lst 6 _) (fun _=>DLn)
def DC7:List SV→Option (List TPlaced)
 |[a0]=>(asL 6 a0).bind fun v0=>some v0
 |_=>none
theorem DC7_ok {l:List SV} {x:(List TPlaced)} (h:DC7 l=some x) (hd:DenL m ids l us):DL (TD7 x) m us:=by
 unfold DC7 at h;split at h
 ·obtain⟨v0,h0,h⟩:=bnd h;cases h;refine DLk hd (fun y=>asL_ok h0) (fun us hd=>?_)
  rw [DenL]at hd;rw [DL];exact hd
 ·cases h
def ES8 (x:TExport):List SV:=[.str x.Name,.str x.Version,.b x.Main,.i x.Kind,.i x.At,.i x.Size]
theorem ES8_iff (x:TExport):DL (TD8 x) m us↔DenL m ids (ES8 x) us:=DLc (q_str _) (fun _=>DLc (q_str _) (fun _=>DLc (q_bool _) (fun _=>DLc (q_int _) (fun _=>DLc (q_int _) (fun _=>DLc (q_int _) (fun _=>DLn))))))
def DC8:List SV→Option TExport
 |[a0,a1,a2,a3,a4,a5]=>(asS a0).bind fun v0=>(asS a1).bind fun v1=>(asB a2).bind fun v2=>(asI a3).bind fun v3=>(asI a4).bind fun v4=>(asI a5).bind fun v5=>some ⟨v0,v1,v2,v3,v4,v5⟩
 |_=>none
theorem DC8_ok {l:List SV} {x:TExport} (h:DC8 l=some x) (hd:DenL m ids l us):DL (TD8 x) m us:=by
 unfold DC8 at h;split at h
 ·obtain⟨v0,h0,h⟩:=bnd h;obtain⟨v1,h1,h⟩:=bnd h;obtain⟨v2,h2,h⟩:=bnd h;obtain⟨v3,h3,h⟩:=bnd h;obtain⟨v4,h4,h⟩:=bnd h;obtain⟨v5,h5,h⟩:=bnd h;cases h;refine DLk hd (fun y=>asS_ok h0) (fun us hd=>?_)
  refine DLk hd (fun y=>asS_ok h1) (fun us hd=>?_)
  refine DLk hd (fun y=>asB_ok h2) (fun us hd=>?_)
  refine DLk hd (fun y=>asI_ok h3) (fun us hd=>?_)
  refine DLk hd (fun y=>asI_ok h4) (fun us hd=>?_)
  refine DLk hd (fun y=>asI_ok h5) (fun us hd=>?_)
  rw [DenL]at hd;rw [DL];exact hd
 ·cases h
def ES9 (x:(List TExport)):List SV:=[.lst none 8 x]
theorem ES9_iff (x:(List TExport)):DL (TD9 x) m us↔DenL m ids (ES9 x) us:=DLc (q_lst 8 _) (fun _=>DLn)
def DC9:List SV→Option (List TExport)
 |[a0]=>(asL 8 a0).bind fun v0=>some v0
 |_=>none
theorem DC9_ok {l:List SV} {x:(List TExport)} (h:DC9 l=some x) (hd:DenL m ids l us):DL (TD9 x) m us:=by
 unfold DC9 at h;split at h
 ·obtain⟨v0,h0,h⟩:=bnd h;cases h;refine DLk hd (fun y=>asL_ok h0) (fun us hd=>?_)
  rw [DenL]at hd;rw [DL];exact hd
 ·cases h
def ES10 (x:TImport):List SV:=[.str x.Name,.str x.Version,.i x.Kind,.b x.Weak,.b x.Own]
theorem ES10_iff (x:TImport):DL (TD10 x) m us↔DenL m ids (ES10 x) us:=DLc (q_str _) (fun _=>DLc (q_str _) (fun _=>DLc (q_int _) (fun _=>DLc (q_bool _) (fun _=>DLc (q_bool _) (fun _=>DLn)))))
def DC10:List SV→Option TImport
 |[a0,a1,a2,a3,a4]=>(asS a0).bind fun v0=>(asS a1).bind fun v1=>(asI a2).bind fun v2=>(asB a3).bind fun v3=>(asB a4).bind fun v4=>some ⟨v0,v1,v2,v3,v4⟩
 |_=>none
theorem DC10_ok {l:List SV} {x:TImport} (h:DC10 l=some x) (hd:DenL m ids l us):DL (TD10 x) m us:=by
 unfold DC10 at h;split at h
 ·obtain⟨v0,h0,h⟩:=bnd h;obtain⟨v1,h1,h⟩:=bnd h;obtain⟨v2,h2,h⟩:=bnd h;obtain⟨v3,h3,h⟩:=bnd h;obtain⟨v4,h4,h⟩:=bnd h;cases h;refine DLk hd (fun y=>asS_ok h0) (fun us hd=>?_)
  refine DLk hd (fun y=>asS_ok h1) (fun us hd=>?_)
  refine DLk hd (fun y=>asI_ok h2) (fun us hd=>?_)
  refine DLk hd (fun y=>asB_ok h3) (fun us hd=>?_)
  refine DLk hd (fun y=>asB_ok h4) (fun us hd=>?_)
  rw [DenL]at hd;rw [DL];exact hd
 ·cases h
def ES11 (x:(List TImport)):List SV:=[.lst none 10 x]
theorem ES11_iff (x:(List TImport)):DL (TD11 x) m us↔DenL m ids (ES11 x) us:=DLc (q_lst 10 _) (fun _=>DLn)
def DC11:List SV→Option (List TImport)
 |[a0]=>(asL 10 a0).bind fun v0=>some v0
 |_=>none
theorem DC11_ok {l:List SV} {x:(List TImport)} (h:DC11 l=some x) (hd:DenL m ids l us):DL (TD11 x) m us:=by
 unfold DC11 at h;split at h
 ·obtain⟨v0,h0,h⟩:=bnd h;cases h;refine DLk hd (fun y=>asL_ok h0) (fun us hd=>?_)
  rw [DenL]at hd;rw [DL];exact hd
 ·cases h
def ES12 (x:(List Int)):List SV:=[.lst none 0 x]
theorem ES12_iff (x:(List Int)):DL (TD12 x) m us↔DenL m ids (ES12 x) us:=DLc (q_lst 0 _) (fun _=>DLn)
def DC12:List SV→Option (List Int)
 |[a0]=>(asL 0 a0).bind fun v0=>some v0
 |_=>none
theorem DC12_ok {l:List SV} {x:(List Int)} (h:DC12 l=some x) (hd:DenL m ids l us):DL (TD12 x) m us:=by
 unfold DC12 at h;split at h
 ·obtain⟨v0,h0,h⟩:=bnd h;cases h;refine DLk hd (fun y=>asL_ok h0) (fun us hd=>?_)
  rw [DenL]at hd;rw [DL];exact hd
 ·cases h
def ES13 (x:TDyn):List SV:=[.i x.At,.i x.Kind,.i x.Import,.i x.Add]
theorem ES13_iff (x:TDyn):DL (TD13 x) m us↔DenL m ids (ES13 x) us:=DLc (q_int _) (fun _=>DLc (q_int _) (fun _=>DLc (q_int _) (fun _=>DLc (q_int _) (fun _=>DLn))))
def DC13:List SV→Option TDyn
 |[a0,a1,a2,a3]=>(asI a0).bind fun v0=>(asI a1).bind fun v1=>(asI a2).bind fun v2=>(asI a3).bind fun v3=>some ⟨v0,v1,v2,v3⟩
 |_=>none
theorem DC13_ok {l:List SV} {x:TDyn} (h:DC13 l=some x) (hd:DenL m ids l us):DL (TD13 x) m us:=by
 unfold DC13 at h;split at h
 ·obtain⟨v0,h0,h⟩:=bnd h;obtain⟨v1,h1,h⟩:=bnd h;obtain⟨v2,h2,h⟩:=bnd h;obtain⟨v3,h3,h⟩:=bnd h;cases h;refine DLk hd (fun y=>asI_ok h0) (fun us hd=>?_)
  refine DLk hd (fun y=>asI_ok h1) (fun us hd=>?_)
  refine DLk hd (fun y=>asI_ok h2) (fun us hd=>?_)
  refine DLk hd (fun y=>asI_ok h3) (fun us hd=>?_)
  rw [DenL]at hd;rw [DL];exact hd
 ·cases h
def ES14 (x:(List TDyn)):List SV:=[.lst none 13 x]
theorem ES14_iff (x:(List TDyn)):DL (TD14 x) m us↔DenL m ids (ES14 x) us:=DLc (q_lst 13 _) (fun _=>DLn)
def DC14:List SV→Option (List TDyn)
 |[a0]=>(asL 13 a0).bind fun v0=>some v0
 |_=>none
theorem DC14_ok {l:List SV} {x:(List TDyn)} (h:DC14 l=some x) (hd:DenL m ids l us):DL (TD14 x) m us:=by
 unfold DC14 at h;split at h
 ·obtain⟨v0,h0,h⟩:=bnd h;cases h;refine DLk hd (fun y=>asL_ok h0) (fun us hd=>?_)
  rw [DenL]at hd;rw [DL];exact hd
 ·cases h
def ES15 (x:(List ByteArray)):List SV:=[.lst none 1 x]
theorem ES15_iff (x:(List ByteArray)):DL (TD15 x) m us↔DenL m ids (ES15 x) us:=DLc (q_lst 1 _) (fun _=>DLn)
def DC15:List SV→Option (List ByteArray)
 |[a0]=>(asL 1 a0).bind fun v0=>some v0
 |_=>none
theorem DC15_ok {l:List SV} {x:(List ByteArray)} (h:DC15 l=some x) (hd:DenL m ids l us):DL (TD15 x) m us:=by
 unfold DC15 at h;split at h
 ·obtain⟨v0,h0,h⟩:=bnd h;cases h;refine DLk hd (fun y=>asL_ok h0) (fun us hd=>?_)
  rw [DenL]at hd;rw [DL];exact hd
 ·cases h
def ES16 (x:TVersionDef):List SV:=[.str x.Name,.lst none 1 x.Parents]
theorem ES16_iff (x:TVersionDef):DL (TD16 x) m us↔DenL m ids (ES16 x) us:=DLc (q_str _) (fun _=>DLc (q_lst 1 _) (fun _=>DLn))
def DC16:List SV→Option TVersionDef
 |[a0,a1]=>(asS a0).bind fun v0=>(asL 1 a1).bind fun v1=>some ⟨v0,v1⟩
 |_=>none
theorem DC16_ok {l:List SV} {x:TVersionDef} (h:DC16 l=some x) (hd:DenL m ids l us):DL (TD16 x) m us:=by
 unfold DC16 at h;split at h
 ·obtain⟨v0,h0,h⟩:=bnd h;obtain⟨v1,h1,h⟩:=bnd h;cases h;refine DLk hd (fun y=>asS_ok h0) (fun us hd=>?_)
  refine DLk hd (fun y=>asL_ok h1) (fun us hd=>?_)
  rw [DenL]at hd;rw [DL];exact hd
 ·cases h
def ES17 (x:(List TVersionDef)):List SV:=[.lst none 16 x]
theorem ES17_iff (x:(List TVersionDef)):DL (TD17 x) m us↔DenL m ids (ES17 x) us:=DLc (q_lst 16 _) (fun _=>DLn)
def DC17:List SV→Option (List TVersionDef)
 |[a0]=>(asL 16 a0).bind fun v0=>some v0
 |_=>none
theorem DC17_ok {l:List SV} {x:(List TVersionDef)} (h:DC17 l=some x) (hd:DenL m ids l us):DL (TD17 x) m us:=by
 unfold DC17 at h;split at h
 ·obtain⟨v0,h0,h⟩:=bnd h;cases h;refine DLk hd (fun y=>asL_ok h0) (fun us hd=>?_)
  rw [DenL]at hd;rw [DL];exact hd
 ·cases h
def ES18 (x:TMark):List SV:=[.str x.Name,.i x.Kind,.i x.At,.i x.Size]
theorem ES18_iff (x:TMark):DL (TD18 x) m us↔DenL m ids (ES18 x) us:=DLc (q_str _) (fun _=>DLc (q_int _) (fun _=>DLc (q_int _) (fun _=>DLc (q_int _) (fun _=>DLn))))
def DC18:List SV→Option TMark
 |[a0,a1,a2,a3]=>(asS a0).bind fun v0=>(asI a1).bind fun v1=>(asI a2).bind fun v2=>(asI a3).bind fun v3=>some ⟨v0,v1,v2,v3⟩
 |_=>none
theorem DC18_ok {l:List SV} {x:TMark} (h:DC18 l=some x) (hd:DenL m ids l us):DL (TD18 x) m us:=by
 unfold DC18 at h;split at h
 ·obtain⟨v0,h0,h⟩:=bnd h;obtain⟨v1,h1,h⟩:=bnd h;obtain⟨v2,h2,h⟩:=bnd h;obtain⟨v3,h3,h⟩:=bnd h;cases h;refine DLk hd (fun y=>asS_ok h0) (fun us hd=>?_)
  refine DLk hd (fun y=>asI_ok h1) (fun us hd=>?_)
  refine DLk hd (fun y=>asI_ok h2) (fun us hd=>?_)
  refine DLk hd (fun y=>asI_ok h3) (fun us hd=>?_)
  rw [DenL]at hd;rw [DL];exact hd
 ·cases h
def ES19 (x:(List TMark)):List SV:=[.lst none 18 x]
theorem ES19_iff (x:(List TMark)):DL (TD19 x) m us↔DenL m ids (ES19 x) us:=DLc (q_lst 18 _) (fun _=>DLn)
def DC19:List SV→Option (List TMark)
 |[a0]=>(asL 18 a0).bind fun v0=>some v0
 |_=>none
theorem DC19_ok {l:List SV} {x:(List TMark)} (h:DC19 l=some x) (hd:DenL m ids l us):DL (TD19 x) m us:=by
 unfold DC19 at h;split at h
 ·obtain⟨v0,h0,h⟩:=bnd h;cases h;refine DLk hd (fun y=>asL_ok h0) (fun us hd=>?_)
  rw [DenL]at hd;rw [DL];exact hd
 ·cases h
def ES20 (x:TLine):List SV:=[.i x.Sec,.i x.At,.str x.File,.i x.Line]
theorem ES20_iff (x:TLine):DL (TD20 x) m us↔DenL m ids (ES20 x) us:=DLc (q_int _) (fun _=>DLc (q_int _) (fun _=>DLc (q_str _) (fun _=>DLc (q_int _) (fun _=>DLn))))
def DC20:List SV→Option TLine
 |[a0,a1,a2,a3]=>(asI a0).bind fun v0=>(asI a1).bind fun v1=>(asS a2).bind fun v2=>(asI a3).bind fun v3=>some ⟨v0,v1,v2,v3⟩
 |_=>none
theorem DC20_ok {l:List SV} {x:TLine} (h:DC20 l=some x) (hd:DenL m ids l us):DL (TD20 x) m us:=by
 unfold DC20 at h;split at h
 ·obtain⟨v0,h0,h⟩:=bnd h;obtain⟨v1,h1,h⟩:=bnd h;obtain⟨v2,h2,h⟩:=bnd h;obtain⟨v3,h3,h⟩:=bnd h;cases h;refine DLk hd (fun y=>asI_ok h0) (fun us hd=>?_)
  refine DLk hd (fun y=>asI_ok h1) (fun us hd=>?_)
  refine DLk hd (fun y=>asS_ok h2) (fun us hd=>?_)
  refine DLk hd (fun y=>asI_ok h3) (fun us hd=>?_)
  rw [DenL]at hd;rw [DL];exact hd
 ·cases h
def ES21 (x:(List TLine)):List SV:=[.lst none 20 x]
theorem ES21_iff (x:(List TLine)):DL (TD21 x) m us↔DenL m ids (ES21 x) us:=DLc (q_lst 20 _) (fun _=>DLn)
def DC21:List SV→Option (List TLine)
 |[a0]=>(asL 20 a0).bind fun v0=>some v0
 |_=>none
theorem DC21_ok {l:List SV} {x:(List TLine)} (h:DC21 l=some x) (hd:DenL m ids l us):DL (TD21 x) m us:=by
 unfold DC21 at h;split at h
 ·obtain⟨v0,h0,h⟩:=bnd h;cases h;refine DLk hd (fun y=>asL_ok h0) (fun us hd=>?_)
  rw [DenL]at hd;rw [DL];exact hd
 ·cases h
def ES22 (x:TSpan):List SV:=[.i x.At,.i x.Size]
theorem ES22_iff (x:TSpan):DL (TD22 x) m us↔DenL m ids (ES22 x) us:=DLc (q_int _) (fun _=>DLc (q_int _) (fun _=>DLn))
def DC22:List SV→Option TSpan
 |[a0,a1]=>(asI a0).bind fun v0=>(asI a1).bind fun v1=>some ⟨v0,v1⟩
 |_=>none
theorem DC22_ok {l:List SV} {x:TSpan} (h:DC22 l=some x) (hd:DenL m ids l us):DL (TD22 x) m us:=by
 unfold DC22 at h;split at h
 ·obtain⟨v0,h0,h⟩:=bnd h;obtain⟨v1,h1,h⟩:=bnd h;cases h;refine DLk hd (fun y=>asI_ok h0) (fun us hd=>?_)
  refine DLk hd (fun y=>asI_ok h1) (fun us hd=>?_)
  rw [DenL]at hd;rw [DL];exact hd
 ·cases h
def ES23 (x:(List TSpan)):List SV:=[.lst none 22 x]
theorem ES23_iff (x:(List TSpan)):DL (TD23 x) m us↔DenL m ids (ES23 x) us:=DLc (q_lst 22 _) (fun _=>DLn)
def DC23:List SV→Option (List TSpan)
 |[a0]=>(asL 22 a0).bind fun v0=>some v0
 |_=>none
theorem DC23_ok {l:List SV} {x:(List TSpan)} (h:DC23 l=some x) (hd:DenL m ids l us):DL (TD23 x) m us:=by
 unfold DC23 at h;split at h
 ·obtain⟨v0,h0,h⟩:=bnd h;cases h;refine DLk hd (fun y=>asL_ok h0) (fun us hd=>?_)
  rw [DenL]at hd;rw [DL];exact hd
 ·cases h
def ES24 (x:TInline):List SV:=[.i x.Sec,.i x.From,.i x.To,.str x.Name,.str x.File,.i x.Line]
theorem ES24_iff (x:TInline):DL (TD24 x) m us↔DenL m ids (ES24 x) us:=DLc (q_int _) (fun _=>DLc (q_int _) (fun _=>DLc (q_int _) (fun _=>DLc (q_str _) (fun _=>DLc (q_str _) (fun _=>DLc (q_int _) (fun _=>DLn))))))
def DC24:List SV→Option TInline
 |[a0,a1,a2,a3,a4,a5]=>(asI a0).bind fun v0=>(asI a1).bind fun v1=>(asI a2).bind fun v2=>(asS a3).bind fun v3=>(asS a4).bind fun v4=>(asI a5).bind fun v5=>some ⟨v0,v1,v2,v3,v4,v5⟩
 |_=>none
theorem DC24_ok {l:List SV} {x:TInline} (h:DC24 l=some x) (hd:DenL m ids l us):DL (TD24 x) m us:=by
 unfold DC24 at h;split at h
 ·obtain⟨v0,h0,h⟩:=bnd h;obtain⟨v1,h1,h⟩:=bnd h;obtain⟨v2,h2,h⟩:=bnd h;obtain⟨v3,h3,h⟩:=bnd h;obtain⟨v4,h4,h⟩:=bnd h;obtain⟨v5,h5,h⟩:=bnd h;cases h;refine DLk hd (fun y=>asI_ok h0) (fun us hd=>?_)
  refine DLk hd (fun y=>asI_ok h1) (fun us hd=>?_)
  refine DLk hd (fun y=>asI_ok h2) (fun us hd=>?_)
  refine DLk hd (fun y=>asS_ok h3) (fun us hd=>?_)
  refine DLk hd (fun y=>asS_ok h4) (fun us hd=>?_)
  refine DLk hd (fun y=>asI_ok h5) (fun us hd=>?_)
  rw [DenL]at hd;rw [DL];exact hd
 ·cases h
def ES25 (x:(List TInline)):List SV:=[.lst none 24 x]
theorem ES25_iff (x:(List TInline)):DL (TD25 x) m us↔DenL m ids (ES25 x) us:=DLc (q_lst 24 _) (fun _=>DLn)
def DC25:List SV→Option (List TInline)
 |[a0]=>(asL 24 a0).bind fun v0=>some v0
 |_=>none
theorem DC25_ok {l:List SV} {x:(List TInline)} (h:DC25 l=some x) (hd:DenL m ids l us):DL (TD25 x) m us:=by
 unfold DC25 at h;split at h
 ·obtain⟨v0,h0,h⟩:=bnd h;cases h;refine DLk hd (fun y=>asL_ok h0) (fun us hd=>?_)
  rw [DenL]at hd;rw [DL];exact hd
 ·cases h
def ES26 (x:TVar):List SV:=[.i x.Sec,.i x.From,.i x.To,.str x.Name,.i x.Where,.i x.N]
theorem ES26_iff (x:TVar):DL (TD26 x) m us↔DenL m ids (ES26 x) us:=DLc (q_int _) (fun _=>DLc (q_int _) (fun _=>DLc (q_int _) (fun _=>DLc (q_str _) (fun _=>DLc (q_int _) (fun _=>DLc (q_int _) (fun _=>DLn))))))
def DC26:List SV→Option TVar
 |[a0,a1,a2,a3,a4,a5]=>(asI a0).bind fun v0=>(asI a1).bind fun v1=>(asI a2).bind fun v2=>(asS a3).bind fun v3=>(asI a4).bind fun v4=>(asI a5).bind fun v5=>some ⟨v0,v1,v2,v3,v4,v5⟩
 |_=>none
theorem DC26_ok {l:List SV} {x:TVar} (h:DC26 l=some x) (hd:DenL m ids l us):DL (TD26 x) m us:=by
 unfold DC26 at h;split at h
 ·obtain⟨v0,h0,h⟩:=bnd h;obtain⟨v1,h1,h⟩:=bnd h;obtain⟨v2,h2,h⟩:=bnd h;obtain⟨v3,h3,h⟩:=bnd h;obtain⟨v4,h4,h⟩:=bnd h;obtain⟨v5,h5,h⟩:=bnd h;cases h;refine DLk hd (fun y=>asI_ok h0) (fun us hd=>?_)
  refine DLk hd (fun y=>asI_ok h1) (fun us hd=>?_)
  refine DLk hd (fun y=>asI_ok h2) (fun us hd=>?_)
  refine DLk hd (fun y=>asS_ok h3) (fun us hd=>?_)
  refine DLk hd (fun y=>asI_ok h4) (fun us hd=>?_)
  refine DLk hd (fun y=>asI_ok h5) (fun us hd=>?_)
  rw [DenL]at hd;rw [DL];exact hd
 ·cases h
def ES27 (x:(List TVar)):List SV:=[.lst none 26 x]
theorem ES27_iff (x:(List TVar)):DL (TD27 x) m us↔DenL m ids (ES27 x) us:=DLc (q_lst 26 _) (fun _=>DLn)
def DC27:List SV→Option (List TVar)
 |[a0]=>(asL 26 a0).bind fun v0=>some v0
 |_=>none
theorem DC27_ok {l:List SV} {x:(List TVar)} (h:DC27 l=some x) (hd:DenL m ids l us):DL (TD27 x) m us:=by
 unfold DC27 at h;split at h
 ·obtain⟨v0,h0,h⟩:=bnd h;cases h;refine DLk hd (fun y=>asL_ok h0) (fun us hd=>?_)
  rw [DenL]at hd;rw [DL];exact hd
 ·cases h
def ES28 (x:TDepth):List SV:=[.i x.Sec,.i x.From,.i x.To,.i x.Bytes]
theorem ES28_iff (x:TDepth):DL (TD28 x) m us↔DenL m ids (ES28 x) us:=DLc (q_int _) (fun _=>DLc (q_int _) (fun _=>DLc (q_int _) (fun _=>DLc (q_int _) (fun _=>DLn))))
def DC28:List SV→Option TDepth
 |[a0,a1,a2,a3]=>(asI a0).bind fun v0=>(asI a1).bind fun v1=>(asI a2).bind fun v2=>(asI a3).bind fun v3=>some ⟨v0,v1,v2,v3⟩
 |_=>none
theorem DC28_ok {l:List SV} {x:TDepth} (h:DC28 l=some x) (hd:DenL m ids l us):DL (TD28 x) m us:=by
 unfold DC28 at h;split at h
 ·obtain⟨v0,h0,h⟩:=bnd h;obtain⟨v1,h1,h⟩:=bnd h;obtain⟨v2,h2,h⟩:=bnd h;obtain⟨v3,h3,h⟩:=bnd h;cases h;refine DLk hd (fun y=>asI_ok h0) (fun us hd=>?_)
  refine DLk hd (fun y=>asI_ok h1) (fun us hd=>?_)
  refine DLk hd (fun y=>asI_ok h2) (fun us hd=>?_)
  refine DLk hd (fun y=>asI_ok h3) (fun us hd=>?_)
  rw [DenL]at hd;rw [DL];exact hd
 ·cases h
def ES29 (x:(List TDepth)):List SV:=[.lst none 28 x]
theorem ES29_iff (x:(List TDepth)):DL (TD29 x) m us↔DenL m ids (ES29 x) us:=DLc (q_lst 28 _) (fun _=>DLn)
def DC29:List SV→Option (List TDepth)
 |[a0]=>(asL 28 a0).bind fun v0=>some v0
 |_=>none
theorem DC29_ok {l:List SV} {x:(List TDepth)} (h:DC29 l=some x) (hd:DenL m ids l us):DL (TD29 x) m us:=by
 unfold DC29 at h;split at h
 ·obtain⟨v0,h0,h⟩:=bnd h;cases h;refine DLk hd (fun y=>asL_ok h0) (fun us hd=>?_)
  rw [DenL]at hd;rw [DL];exact hd
 ·cases h
def ES30 (x:TInfo):List SV:=[.lst none 18 x.Marks,.lst none 20 x.Lines,.lst none 22 x.Ends,.lst none 24 x.Inlines,.lst none 26 x.Vars,.lst none 28 x.Depths]
theorem ES30_iff (x:TInfo):DL (TD30 x) m us↔DenL m ids (ES30 x) us:=DLc (q_lst 18 _) (fun _=>DLc (q_lst 20 _) (fun _=>DLc (q_lst 22 _) (fun _=>DLc (q_lst 24 _) (fun _=>DLc (q_lst 26 _) (fun _=>DLc (q_lst 28 _) (fun _=>DLn))))))
def DC30:List SV→Option TInfo
 |[a0,a1,a2,a3,a4,a5]=>(asL 18 a0).bind fun v0=>(asL 20 a1).bind fun v1=>(asL 22 a2).bind fun v2=>(asL 24 a3).bind fun v3=>(asL 26 a4).bind fun v4=>(asL 28 a5).bind fun v5=>some ⟨v0,v1,v2,v3,v4,v5⟩
 |_=>none
theorem DC30_ok {l:List SV} {x:TInfo} (h:DC30 l=some x) (hd:DenL m ids l us):DL (TD30 x) m us:=by
 unfold DC30 at h;split at h
 ·obtain⟨v0,h0,h⟩:=bnd h;obtain⟨v1,h1,h⟩:=bnd h;obtain⟨v2,h2,h⟩:=bnd h;obtain⟨v3,h3,h⟩:=bnd h;obtain⟨v4,h4,h⟩:=bnd h;obtain⟨v5,h5,h⟩:=bnd h;cases h;refine DLk hd (fun y=>asL_ok h0) (fun us hd=>?_)
  refine DLk hd (fun y=>asL_ok h1) (fun us hd=>?_)
  refine DLk hd (fun y=>asL_ok h2) (fun us hd=>?_)
  refine DLk hd (fun y=>asL_ok h3) (fun us hd=>?_)
  refine DLk hd (fun y=>asL_ok h4) (fun us hd=>?_)
  refine DLk hd (fun y=>asL_ok h5) (fun us hd=>?_)
  rw [DenL]at hd;rw [DL];exact hd
 ·cases h
def ES31 (x:TPiece):List SV:=[.i x.From,.i x.Size,.i x.To]
theorem ES31_iff (x:TPiece):DL (TD31 x) m us↔DenL m ids (ES31 x) us:=DLc (q_int _) (fun _=>DLc (q_int _) (fun _=>DLc (q_int _) (fun _=>DLn)))
def DC31:List SV→Option TPiece
 |[a0,a1,a2]=>(asI a0).bind fun v0=>(asI a1).bind fun v1=>(asI a2).bind fun v2=>some ⟨v0,v1,v2⟩
 |_=>none
theorem DC31_ok {l:List SV} {x:TPiece} (h:DC31 l=some x) (hd:DenL m ids l us):DL (TD31 x) m us:=by
 unfold DC31 at h;split at h
 ·obtain⟨v0,h0,h⟩:=bnd h;obtain⟨v1,h1,h⟩:=bnd h;obtain⟨v2,h2,h⟩:=bnd h;cases h;refine DLk hd (fun y=>asI_ok h0) (fun us hd=>?_)
  refine DLk hd (fun y=>asI_ok h1) (fun us hd=>?_)
  refine DLk hd (fun y=>asI_ok h2) (fun us hd=>?_)
  rw [DenL]at hd;rw [DL];exact hd
 ·cases h
def ES32 (x:(List TPiece)):List SV:=[.lst none 31 x]
theorem ES32_iff (x:(List TPiece)):DL (TD32 x) m us↔DenL m ids (ES32 x) us:=DLc (q_lst 31 _) (fun _=>DLn)
def DC32:List SV→Option (List TPiece)
 |[a0]=>(asL 31 a0).bind fun v0=>some v0
 |_=>none
theorem DC32_ok {l:List SV} {x:(List TPiece)} (h:DC32 l=some x) (hd:DenL m ids l us):DL (TD32 x) m us:=by
 unfold DC32 at h;split at h
 ·obtain⟨v0,h0,h⟩:=bnd h;cases h;refine DLk hd (fun y=>asL_ok h0) (fun us hd=>?_)
  rw [DenL]at hd;rw [DL];exact hd
 ·cases h
def ES33 (x:TConv):List SV:=[.str x.Obj,.str x.Sec,.str x.From,.lst none 31 x.Pieces,.i x.Code]
theorem ES33_iff (x:TConv):DL (TD33 x) m us↔DenL m ids (ES33 x) us:=DLc (q_str _) (fun _=>DLc (q_str _) (fun _=>DLc (q_str _) (fun _=>DLc (q_lst 31 _) (fun _=>DLc (q_int _) (fun _=>DLn)))))
def DC33:List SV→Option TConv
 |[a0,a1,a2,a3,a4]=>(asS a0).bind fun v0=>(asS a1).bind fun v1=>(asS a2).bind fun v2=>(asL 31 a3).bind fun v3=>(asI a4).bind fun v4=>some ⟨v0,v1,v2,v3,v4⟩
 |_=>none
theorem DC33_ok {l:List SV} {x:TConv} (h:DC33 l=some x) (hd:DenL m ids l us):DL (TD33 x) m us:=by
 unfold DC33 at h;split at h
 ·obtain⟨v0,h0,h⟩:=bnd h;obtain⟨v1,h1,h⟩:=bnd h;obtain⟨v2,h2,h⟩:=bnd h;obtain⟨v3,h3,h⟩:=bnd h;obtain⟨v4,h4,h⟩:=bnd h;cases h;refine DLk hd (fun y=>asS_ok h0) (fun us hd=>?_)
  refine DLk hd (fun y=>asS_ok h1) (fun us hd=>?_)
  refine DLk hd (fun y=>asS_ok h2) (fun us hd=>?_)
  refine DLk hd (fun y=>asL_ok h3) (fun us hd=>?_)
  refine DLk hd (fun y=>asI_ok h4) (fun us hd=>?_)
  rw [DenL]at hd;rw [DL];exact hd
 ·cases h
def ES34 (x:(List TConv)):List SV:=[.lst none 33 x]
theorem ES34_iff (x:(List TConv)):DL (TD34 x) m us↔DenL m ids (ES34 x) us:=DLc (q_lst 33 _) (fun _=>DLn)
def DC34:List SV→Option (List TConv)
 |[a0]=>(asL 33 a0).bind fun v0=>some v0
 |_=>none
theorem DC34_ok {l:List SV} {x:(List TConv)} (h:DC34 l=some x) (hd:DenL m ids l us):DL (TD34 x) m us:=by
 unfold DC34 at h;split at h
 ·obtain⟨v0,h0,h⟩:=bnd h;cases h;refine DLk hd (fun y=>asL_ok h0) (fun us hd=>?_)
  rw [DenL]at hd;rw [DL];exact hd
 ·cases h
def ES35 (x:TImage):List SV:=[.str x.Name,.b x.Lib,.i x.Code,.i x.Data,.i x.Zero,.str x.Bytes,.str x.Tls,.i x.Block,.lst none 6 x.Nodes,.lst none 8 x.Exports,.lst none 10 x.Imports,.lst none 0 x.Slots,.lst none 0 x.Stubs,.lst none 13 x.Dyns,.lst none 0 x.Inits,.lst none 0 x.Lasts,.i x.Entry,.lst none 1 x.Needs,.lst none 16 x.Versions,.lst none 18 x.Info.Marks,.lst none 20 x.Info.Lines,.lst none 22 x.Info.Ends,.lst none 24 x.Info.Inlines,.lst none 26 x.Info.Vars,.lst none 28 x.Info.Depths,.lst none 33 x.Changes]
theorem ES35_iff (x:TImage):DL (TD35 x) m us↔DenL m ids (ES35 x) us:=DLc (q_str _) (fun _=>DLc (q_bool _) (fun _=>DLc (q_int _) (fun _=>DLc (q_int _) (fun _=>DLc (q_int _) (fun _=>DLc (q_str _) (fun _=>DLc (q_str _) (fun _=>DLc (q_int _) (fun _=>DLc (q_lst 6 _) (fun _=>DLc (q_lst 8 _) (fun _=>DLc (q_lst 10 _) (fun _=>DLc (q_lst 0 _) (fun _=>DLc (q_lst 0 _) (fun _=>DLc (q_lst 13 _) (fun _=>DLc (q_lst 0 _) (fun _=>DLc (q_lst 0 _) (fun _=>DLc (q_int _) (fun _=>DLc (q_lst 1 _) (fun _=>DLc (q_lst 16 _) (fun _=>DLc (q_lst 18 _) (fun _=>DLc (q_lst 20 _) (fun _=>DLc (q_lst 22 _) (fun _=>DLc (q_lst 24 _) (fun _=>DLc (q_lst 26 _) (fun _=>DLc (q_lst 28 _) (fun _=>DLc (q_lst 33 _) (fun _=>DLn))))))))))))))))))))))))))
def DC35:List SV→Option TImage
 |[a0,a1,a2,a3,a4,a5,a6,a7,a8,a9,a10,a11,a12,a13,a14,a15,a16,a17,a18,a19,a20,a21,a22,a23,a24,a25]=>(asS a0).bind fun v0=>(asB a1).bind fun v1=>(asI a2).bind fun v2=>(asI a3).bind fun v3=>(asI a4).bind fun v4=>(asS a5).bind fun v5=>(asS a6).bind fun v6=>(asI a7).bind fun v7=>(asL 6 a8).bind fun v8=>(asL 8 a9).bind fun v9=>(asL 10 a10).bind fun v10=>(asL 0 a11).bind fun v11=>(asL 0 a12).bind fun v12=>(asL 13 a13).bind fun v13=>(asL 0 a14).bind fun v14=>(asL 0 a15).bind fun v15=>(asI a16).bind fun v16=>(asL 1 a17).bind fun v17=>(asL 16 a18).bind fun v18=>(asL 18 a19).bind fun v19=>(asL 20 a20).bind fun v20=>(asL 22 a21).bind fun v21=>(asL 24 a22).bind fun v22=>(asL 26 a23).bind fun v23=>(asL 28 a24).bind fun v24=>(asL 33 a25).bind fun v25=>some ⟨v0,v1,v2,v3,v4,v5,v6,v7,v8,v9,v10,v11,v12,v13,v14,v15,v16,v17,v18,⟨v19,v20,v21,v22,v23,v24⟩,v25⟩
 |_=>none
theorem DC35_ok {l:List SV} {x:TImage} (h:DC35 l=some x) (hd:DenL m ids l us):DL (TD35 x) m us:=by
 unfold DC35 at h;split at h
 ·obtain⟨v0,h0,h⟩:=bnd h;obtain⟨v1,h1,h⟩:=bnd h;obtain⟨v2,h2,h⟩:=bnd h;obtain⟨v3,h3,h⟩:=bnd h;obtain⟨v4,h4,h⟩:=bnd h;obtain⟨v5,h5,h⟩:=bnd h;obtain⟨v6,h6,h⟩:=bnd h;obtain⟨v7,h7,h⟩:=bnd h;obtain⟨v8,h8,h⟩:=bnd h;obtain⟨v9,h9,h⟩:=bnd h;obtain⟨v10,h10,h⟩:=bnd h;obtain⟨v11,h11,h⟩:=bnd h;obtain⟨v12,h12,h⟩:=bnd h;obtain⟨v13,h13,h⟩:=bnd h;obtain⟨v14,h14,h⟩:=bnd h;obtain⟨v15,h15,h⟩:=bnd h;obtain⟨v16,h16,h⟩:=bnd h;obtain⟨v17,h17,h⟩:=bnd h;obtain⟨v18,h18,h⟩:=bnd h;obtain⟨v19,h19,h⟩:=bnd h;obtain⟨v20,h20,h⟩:=bnd h;obtain⟨v21,h21,h⟩:=bnd h;obtain⟨v22,h22,h⟩:=bnd h;obtain⟨v23,h23,h⟩:=bnd h;obtain⟨v24,h24,h⟩:=bnd h;obtain⟨v25,h25,h⟩:=bnd h;cases h;refine DLk hd (fun y=>asS_ok h0) (fun us hd=>?_)
  refine DLk hd (fun y=>asB_ok h1) (fun us hd=>?_)
  refine DLk hd (fun y=>asI_ok h2) (fun us hd=>?_)
  refine DLk hd (fun y=>asI_ok h3) (fun us hd=>?_)
  refine DLk hd (fun y=>asI_ok h4) (fun us hd=>?_)
  refine DLk hd (fun y=>asS_ok h5) (fun us hd=>?_)
  refine DLk hd (fun y=>asS_ok h6) (fun us hd=>?_)
  refine DLk hd (fun y=>asI_ok h7) (fun us hd=>?_)
  refine DLk hd (fun y=>asL_ok h8) (fun us hd=>?_)
  refine DLk hd (fun y=>asL_ok h9) (fun us hd=>?_)
  refine DLk hd (fun y=>asL_ok h10) (fun us hd=>?_)
  refine DLk hd (fun y=>asL_ok h11) (fun us hd=>?_)
  refine DLk hd (fun y=>asL_ok h12) (fun us hd=>?_)
  refine DLk hd (fun y=>asL_ok h13) (fun us hd=>?_)
  refine DLk hd (fun y=>asL_ok h14) (fun us hd=>?_)
  refine DLk hd (fun y=>asL_ok h15) (fun us hd=>?_)
  refine DLk hd (fun y=>asI_ok h16) (fun us hd=>?_)
  refine DLk hd (fun y=>asL_ok h17) (fun us hd=>?_)
  refine DLk hd (fun y=>asL_ok h18) (fun us hd=>?_)
  refine DLk hd (fun y=>asL_ok h19) (fun us hd=>?_)
  refine DLk hd (fun y=>asL_ok h20) (fun us hd=>?_)
  refine DLk hd (fun y=>asL_ok h21) (fun us hd=>?_)
  refine DLk hd (fun y=>asL_ok h22) (fun us hd=>?_)
  refine DLk hd (fun y=>asL_ok h23) (fun us hd=>?_)
  refine DLk hd (fun y=>asL_ok h24) (fun us hd=>?_)
  refine DLk hd (fun y=>asL_ok h25) (fun us hd=>?_)
  rw [DenL]at hd;rw [DL];exact hd
 ·cases h
def ES36 (x:TSpot):List SV:=[.str x.Func,.i x.Off,.str x.File,.i x.Line,.lst none 24 x.Inlines]
theorem ES36_iff (x:TSpot):DL (TD36 x) m us↔DenL m ids (ES36 x) us:=DLc (q_str _) (fun _=>DLc (q_int _) (fun _=>DLc (q_str _) (fun _=>DLc (q_int _) (fun _=>DLc (q_lst 24 _) (fun _=>DLn)))))
def DC36:List SV→Option TSpot
 |[a0,a1,a2,a3,a4]=>(asS a0).bind fun v0=>(asI a1).bind fun v1=>(asS a2).bind fun v2=>(asI a3).bind fun v3=>(asL 24 a4).bind fun v4=>some ⟨v0,v1,v2,v3,v4⟩
 |_=>none
theorem DC36_ok {l:List SV} {x:TSpot} (h:DC36 l=some x) (hd:DenL m ids l us):DL (TD36 x) m us:=by
 unfold DC36 at h;split at h
 ·obtain⟨v0,h0,h⟩:=bnd h;obtain⟨v1,h1,h⟩:=bnd h;obtain⟨v2,h2,h⟩:=bnd h;obtain⟨v3,h3,h⟩:=bnd h;obtain⟨v4,h4,h⟩:=bnd h;cases h;refine DLk hd (fun y=>asS_ok h0) (fun us hd=>?_)
  refine DLk hd (fun y=>asI_ok h1) (fun us hd=>?_)
  refine DLk hd (fun y=>asS_ok h2) (fun us hd=>?_)
  refine DLk hd (fun y=>asI_ok h3) (fun us hd=>?_)
  refine DLk hd (fun y=>asL_ok h4) (fun us hd=>?_)
  rw [DenL]at hd;rw [DL];exact hd
 ·cases h
def ES37 (x:(ByteArray×ByteArray)):List SV:=[.str x.1,.str x.2]
theorem ES37_iff (x:(ByteArray×ByteArray)):DL (TD37 x) m us↔DenL m ids (ES37 x) us:=DLc (q_str _) (fun _=>DLc (q_str _) (fun _=>DLn))
def DC37:List SV→Option (ByteArray×ByteArray)
 |[a0,a1]=>(asS a0).bind fun v0=>(asS a1).bind fun v1=>some (v0,v1)
 |_=>none
theorem DC37_ok {l:List SV} {x:(ByteArray×ByteArray)} (h:DC37 l=some x) (hd:DenL m ids l us):DL (TD37 x) m us:=by
 unfold DC37 at h;split at h
 ·obtain⟨v0,h0,h⟩:=bnd h;obtain⟨v1,h1,h⟩:=bnd h;cases h;refine DLk hd (fun y=>asS_ok h0) (fun us hd=>?_)
  refine DLk hd (fun y=>asS_ok h1) (fun us hd=>?_)
  rw [DenL]at hd;rw [DL];exact hd
 ·cases h
def ES38 (x:(Int×Int)):List SV:=[.i x.1,.i x.2]
theorem ES38_iff (x:(Int×Int)):DL (TD38 x) m us↔DenL m ids (ES38 x) us:=DLc (q_int _) (fun _=>DLc (q_int _) (fun _=>DLn))
def DC38:List SV→Option (Int×Int)
 |[a0,a1]=>(asI a0).bind fun v0=>(asI a1).bind fun v1=>some (v0,v1)
 |_=>none
theorem DC38_ok {l:List SV} {x:(Int×Int)} (h:DC38 l=some x) (hd:DenL m ids l us):DL (TD38 x) m us:=by
 unfold DC38 at h;split at h
 ·obtain⟨v0,h0,h⟩:=bnd h;obtain⟨v1,h1,h⟩:=bnd h;cases h;refine DLk hd (fun y=>asI_ok h0) (fun us hd=>?_)
  refine DLk hd (fun y=>asI_ok h1) (fun us hd=>?_)
  rw [DenL]at hd;rw [DL];exact hd
 ·cases h
def ES39 (x:TArc):List SV:=[.i x.From,.i x.To]
theorem ES39_iff (x:TArc):DL (TD39 x) m us↔DenL m ids (ES39 x) us:=DLc (q_int _) (fun _=>DLc (q_int _) (fun _=>DLn))
def DC39:List SV→Option TArc
 |[a0,a1]=>(asI a0).bind fun v0=>(asI a1).bind fun v1=>some ⟨v0,v1⟩
 |_=>none
theorem DC39_ok {l:List SV} {x:TArc} (h:DC39 l=some x) (hd:DenL m ids l us):DL (TD39 x) m us:=by
 unfold DC39 at h;split at h
 ·obtain⟨v0,h0,h⟩:=bnd h;obtain⟨v1,h1,h⟩:=bnd h;cases h;refine DLk hd (fun y=>asI_ok h0) (fun us hd=>?_)
  refine DLk hd (fun y=>asI_ok h1) (fun us hd=>?_)
  rw [DenL]at hd;rw [DL];exact hd
 ·cases h
def ES40 (x:(List TArc)):List SV:=[.lst none 39 x]
theorem ES40_iff (x:(List TArc)):DL (TD40 x) m us↔DenL m ids (ES40 x) us:=DLc (q_lst 39 _) (fun _=>DLn)
def DC40:List SV→Option (List TArc)
 |[a0]=>(asL 39 a0).bind fun v0=>some v0
 |_=>none
theorem DC40_ok {l:List SV} {x:(List TArc)} (h:DC40 l=some x) (hd:DenL m ids l us):DL (TD40 x) m us:=by
 unfold DC40 at h;split at h
 ·obtain⟨v0,h0,h⟩:=bnd h;cases h;refine DLk hd (fun y=>asL_ok h0) (fun us hd=>?_)
  rw [DenL]at hd;rw [DL];exact hd
 ·cases h
def ES41 (x:(List UInt8)):List SV:=[.lst none 3 x]
theorem ES41_iff (x:(List UInt8)):DL (TD41 x) m us↔DenL m ids (ES41 x) us:=DLc (q_lst 3 _) (fun _=>DLn)
def DC41:List SV→Option (List UInt8)
 |[a0]=>(asL 3 a0).bind fun v0=>some v0
 |_=>none
theorem DC41_ok {l:List SV} {x:(List UInt8)} (h:DC41 l=some x) (hd:DenL m ids l us):DL (TD41 x) m us:=by
 unfold DC41 at h;split at h
 ·obtain⟨v0,h0,h⟩:=bnd h;cases h;refine DLk hd (fun y=>asL_ok h0) (fun us hd=>?_)
  rw [DenL]at hd;rw [DL];exact hd
 ·cases h
def ES42 (x:(List (List Int))):List SV:=[.lst none 12 x]
theorem ES42_iff (x:(List (List Int))):DL (TD42 x) m us↔DenL m ids (ES42 x) us:=DLc (q_lst 12 _) (fun _=>DLn)
def DC42:List SV→Option (List (List Int))
 |[a0]=>(asL 12 a0).bind fun v0=>some v0
 |_=>none
theorem DC42_ok {l:List SV} {x:(List (List Int))} (h:DC42 l=some x) (hd:DenL m ids l us):DL (TD42 x) m us:=by
 unfold DC42 at h;split at h
 ·obtain⟨v0,h0,h⟩:=bnd h;cases h;refine DLk hd (fun y=>asL_ok h0) (fun us hd=>?_)
  rw [DenL]at hd;rw [DL];exact hd
 ·cases h
def ES43 (x:TGraphFinder):List SV:=[.lst none 12 x.next,.lst none 0 x.index,.lst none 0 x.low,.lst none 0 x.stack,.lst none 0 x.part,.lst none 12 x.parts]
theorem ES43_iff (x:TGraphFinder):DL (TD43 x) m us↔DenL m ids (ES43 x) us:=DLc (q_lst 12 _) (fun _=>DLc (q_lst 0 _) (fun _=>DLc (q_lst 0 _) (fun _=>DLc (q_lst 0 _) (fun _=>DLc (q_lst 0 _) (fun _=>DLc (q_lst 12 _) (fun _=>DLn))))))
def DC43:List SV→Option TGraphFinder
 |[a0,a1,a2,a3,a4,a5]=>(asL 12 a0).bind fun v0=>(asL 0 a1).bind fun v1=>(asL 0 a2).bind fun v2=>(asL 0 a3).bind fun v3=>(asL 0 a4).bind fun v4=>(asL 12 a5).bind fun v5=>some ⟨v0,v1,v2,v3,v4,v5⟩
 |_=>none
theorem DC43_ok {l:List SV} {x:TGraphFinder} (h:DC43 l=some x) (hd:DenL m ids l us):DL (TD43 x) m us:=by
 unfold DC43 at h;split at h
 ·obtain⟨v0,h0,h⟩:=bnd h;obtain⟨v1,h1,h⟩:=bnd h;obtain⟨v2,h2,h⟩:=bnd h;obtain⟨v3,h3,h⟩:=bnd h;obtain⟨v4,h4,h⟩:=bnd h;obtain⟨v5,h5,h⟩:=bnd h;cases h;refine DLk hd (fun y=>asL_ok h0) (fun us hd=>?_)
  refine DLk hd (fun y=>asL_ok h1) (fun us hd=>?_)
  refine DLk hd (fun y=>asL_ok h2) (fun us hd=>?_)
  refine DLk hd (fun y=>asL_ok h3) (fun us hd=>?_)
  refine DLk hd (fun y=>asL_ok h4) (fun us hd=>?_)
  refine DLk hd (fun y=>asL_ok h5) (fun us hd=>?_)
  rw [DenL]at hd;rw [DL];exact hd
 ·cases h
def ES44 (x:TGraphCall):List SV:=[.i x.v,.i x.i]
theorem ES44_iff (x:TGraphCall):DL (TD44 x) m us↔DenL m ids (ES44 x) us:=DLc (q_int _) (fun _=>DLc (q_int _) (fun _=>DLn))
def DC44:List SV→Option TGraphCall
 |[a0,a1]=>(asI a0).bind fun v0=>(asI a1).bind fun v1=>some ⟨v0,v1⟩
 |_=>none
theorem DC44_ok {l:List SV} {x:TGraphCall} (h:DC44 l=some x) (hd:DenL m ids l us):DL (TD44 x) m us:=by
 unfold DC44 at h;split at h
 ·obtain⟨v0,h0,h⟩:=bnd h;obtain⟨v1,h1,h⟩:=bnd h;cases h;refine DLk hd (fun y=>asI_ok h0) (fun us hd=>?_)
  refine DLk hd (fun y=>asI_ok h1) (fun us hd=>?_)
  rw [DenL]at hd;rw [DL];exact hd
 ·cases h
def ES45 (x:(List TGraphCall)):List SV:=[.lst none 44 x]
theorem ES45_iff (x:(List TGraphCall)):DL (TD45 x) m us↔DenL m ids (ES45 x) us:=DLc (q_lst 44 _) (fun _=>DLn)
def DC45:List SV→Option (List TGraphCall)
 |[a0]=>(asL 44 a0).bind fun v0=>some v0
 |_=>none
theorem DC45_ok {l:List SV} {x:(List TGraphCall)} (h:DC45 l=some x) (hd:DenL m ids l us):DL (TD45 x) m us:=by
 unfold DC45 at h;split at h
 ·obtain⟨v0,h0,h⟩:=bnd h;cases h;refine DLk hd (fun y=>asL_ok h0) (fun us hd=>?_)
  rw [DenL]at hd;rw [DL];exact hd
 ·cases h
end
structure R2 (c:Nat) where
 E:TabT c→List SV
 C:List SV→Option (TabT c)
 S:TabT c→SV
 V:SV→Option (TabT c)
 g:Bool
 Ei:∀ {m:Mm} {ids us:List Value} (x:TabT c),DL (TabD c x) m us↔DenL m ids (E x) us
 Ci:∀ {m:Mm} {ids us:List Value} {l:List SV} {x:TabT c},C l=some x→DenL m ids l us→DL (TabD c x) m us
 Vi:g=true→∀ {m:Mm} {ids:List Value} {s:SV} {x:TabT c} {y:Value},V s=some x→Den m ids s y→y=TV c x∧DL (TabD c x) m y.cells.toList
 rw:(d:Nat)→List (TabT d)→Option (TabT c)
 rwi:∀ d l x,rw d l=some x→E x=[.lst none d l]
 Si:g=true→∀ {m:Mm} {ids:List Value} {x:TabT c},DL (TabD c x) m (TV c x).cells.toList→Den m ids (S x) (TV c x)
def aggC {α:Type} (F:List SV→Option α):SV→Option α
 |.agg l=>F l
 |_=>none
theorem aggC_some {α:Type} {F:List SV→Option α} {s:SV} {x:α} (h:aggC F s=some x):∃ l,s=.agg l∧F l=some x:=by
 cases s<;>first|exact⟨_,rfl,h⟩|cases h
inductive RT2
 |lf
 |nd (l:RT2) (k:Nat) (v:R2 k) (r:RT2)
def TJ0:R2 0:=⟨ES0,DC0,fun x=>.i x,fun s=>asI s,true,ES0_iff,DC0_ok,
 (fun _ m ids s x y h hd=>by
   obtain⟨rfl,hr⟩:=asI_ok h hd
   exact⟨rfl,_,[],rfl,⟨rfl,hr⟩,rfl⟩),
 (fun _ _=>none),(fun _ _ _ h=>by cases h),
 (fun _ m ids x h=>by
   obtain⟨u,us,e,h1,_⟩:=h;cases e
   exact(q_int _ _).1 h1)⟩
def TJ1:R2 1:=⟨ES1,DC1,fun x=>.str x,fun s=>asS s,true,ES1_iff,DC1_ok,
 (fun _ m ids s x y h hd=>by
   obtain⟨rfl,hr⟩:=asS_ok h hd
   exact⟨rfl,_,[],rfl,⟨rfl,hr⟩,rfl⟩),
 (fun _ _=>none),(fun _ _ _ h=>by cases h),
 (fun _ m ids x h=>by
   obtain⟨u,us,e,h1,_⟩:=h;cases e
   exact(q_str _ _).1 h1)⟩
def TJ2:R2 2:=⟨ES2,DC2,fun x=>.b x,fun s=>asB s,true,ES2_iff,DC2_ok,
 (fun _ m ids s x y h hd=>by
   have hr:y=_:=asB_ok h hd;subst hr
   exact⟨rfl,_,[],rfl,rfl,rfl⟩),
 (fun _ _=>none),(fun _ _ _ h=>by cases h),
 (fun _ m ids x h=>by
   obtain⟨u,us,e,h1,_⟩:=h;cases e
   exact(q_bool _ _).1 h1)⟩
def TJ3:R2 3:=⟨ES3,DC3,fun x=>.w8 x,fun s=>as8 s,true,ES3_iff,DC3_ok,
 (fun _ m ids s x y h hd=>by
   have hr:y=_:=as8_ok h hd;subst hr
   exact⟨rfl,_,[],rfl,rfl,rfl⟩),
 (fun _ _=>none),(fun _ _ _ h=>by cases h),
 (fun _ m ids x h=>by
   obtain⟨u,us,e,h1,_⟩:=h;cases e
   exact(q_w8 _ _).1 h1)⟩
def TJ4:R2 4:=⟨ES4,DC4,fun x=>.w32 x,fun s=>as32 s,true,ES4_iff,DC4_ok,
 (fun _ m ids s x y h hd=>by
   have hr:y=_:=as32_ok h hd;subst hr
   exact⟨rfl,_,[],rfl,rfl,rfl⟩),
 (fun _ _=>none),(fun _ _ _ h=>by cases h),
 (fun _ m ids x h=>by
   obtain⟨u,us,e,h1,_⟩:=h;cases e
   exact(q_w32 _ _).1 h1)⟩
def TJ5:R2 5:=⟨ES5,DC5,fun x=>.w64 x,fun s=>as64 s,true,ES5_iff,DC5_ok,
 (fun _ m ids s x y h hd=>by
   have hr:y=_:=as64_ok h hd;subst hr
   exact⟨rfl,_,[],rfl,rfl,rfl⟩),
 (fun _ _=>none),(fun _ _ _ h=>by cases h),
 (fun _ m ids x h=>by
   obtain⟨u,us,e,h1,_⟩:=h;cases e
   exact(q_w64 _ _).1 h1)⟩
def TJ6:R2 6:=⟨ES6,DC6,fun x=>.agg (ES6 x),fun s=>aggC DC6 s,true,ES6_iff,DC6_ok,
 (fun _ m ids s x y h hd=>by
   obtain⟨l,rfl,h⟩:=aggC_some h;rw [Den]at hd;obtain⟨us,rfl,hd⟩:=hd;have q:DL (TD6 x) m us:=DC6_ok h hd;refine⟨?_,?_⟩
   ·obtain⟨u0,r0,rfl,⟨rfl,_⟩,⟨u1,r1,rfl,⟨rfl,_⟩,⟨u2,r2,rfl,⟨rfl,_⟩,⟨u3,r3,rfl,⟨rfl,_⟩,⟨u4,r4,rfl,⟨rfl,_⟩,⟨u5,r5,rfl,⟨rfl,_⟩,⟨u6,r6,rfl,⟨rfl,_⟩,hq⟩⟩⟩⟩⟩⟩⟩:=q;cases hq;rfl
   ·show DL (TD6 x) m _
    simpa [Value.cells] using q),
 (fun _ _=>none),(fun _ _ _ h=>by cases h),
 (fun _ m ids x h=>by
   rw [Den]
   exact⟨_,rfl,(ES6_iff x).1 h⟩)⟩
def TJ7:R2 7:=⟨ES7,DC7,fun x=>.lst none 6 x,fun s=>asL 6 s,false,ES7_iff,DC7_ok,
 (fun h=>by cases h),
 (fun d l=>castL d 6 l),(fun d l x h=>by
   obtain⟨rfl,h⟩:=castL_some h;subst h
   rfl),
 (fun h=>by cases h)⟩
def TJ8:R2 8:=⟨ES8,DC8,fun x=>.agg (ES8 x),fun s=>aggC DC8 s,true,ES8_iff,DC8_ok,
 (fun _ m ids s x y h hd=>by
   obtain⟨l,rfl,h⟩:=aggC_some h;rw [Den]at hd;obtain⟨us,rfl,hd⟩:=hd;have q:DL (TD8 x) m us:=DC8_ok h hd;refine⟨?_,?_⟩
   ·obtain⟨u0,r0,rfl,⟨rfl,_⟩,⟨u1,r1,rfl,⟨rfl,_⟩,⟨u2,r2,rfl,k2,⟨u3,r3,rfl,⟨rfl,_⟩,⟨u4,r4,rfl,⟨rfl,_⟩,⟨u5,r5,rfl,⟨rfl,_⟩,hq⟩⟩⟩⟩⟩⟩:=q;cases k2;cases hq;rfl
   ·show DL (TD8 x) m _
    simpa [Value.cells] using q),
 (fun _ _=>none),(fun _ _ _ h=>by cases h),
 (fun _ m ids x h=>by
   rw [Den]
   exact⟨_,rfl,(ES8_iff x).1 h⟩)⟩
def TJ9:R2 9:=⟨ES9,DC9,fun x=>.lst none 8 x,fun s=>asL 8 s,false,ES9_iff,DC9_ok,
 (fun h=>by cases h),
 (fun d l=>castL d 8 l),(fun d l x h=>by
   obtain⟨rfl,h⟩:=castL_some h;subst h
   rfl),
 (fun h=>by cases h)⟩
def TJ10:R2 10:=⟨ES10,DC10,fun x=>.agg (ES10 x),fun s=>aggC DC10 s,true,ES10_iff,DC10_ok,
 (fun _ m ids s x y h hd=>by
   obtain⟨l,rfl,h⟩:=aggC_some h;rw [Den]at hd;obtain⟨us,rfl,hd⟩:=hd;have q:DL (TD10 x) m us:=DC10_ok h hd;refine⟨?_,?_⟩
   ·obtain⟨u0,r0,rfl,⟨rfl,_⟩,⟨u1,r1,rfl,⟨rfl,_⟩,⟨u2,r2,rfl,⟨rfl,_⟩,⟨u3,r3,rfl,k3,⟨u4,r4,rfl,k4,hq⟩⟩⟩⟩⟩:=q;cases k3;cases k4;cases hq;rfl
   ·show DL (TD10 x) m _
    simpa [Value.cells] using q),
 (fun _ _=>none),(fun _ _ _ h=>by cases h),
 (fun _ m ids x h=>by
   rw [Den]
   exact⟨_,rfl,(ES10_iff x).1 h⟩)⟩
def TJ11:R2 11:=⟨ES11,DC11,fun x=>.lst none 10 x,fun s=>asL 10 s,false,ES11_iff,DC11_ok,
 (fun h=>by cases h),
 (fun d l=>castL d 10 l),(fun d l x h=>by
   obtain⟨rfl,h⟩:=castL_some h;subst h
   rfl),
 (fun h=>by cases h)⟩
def TJ12:R2 12:=⟨ES12,DC12,fun x=>.lst none 0 x,fun s=>asL 0 s,false,ES12_iff,DC12_ok,
 (fun h=>by cases h),
 (fun d l=>castL d 0 l),(fun d l x h=>by
   obtain⟨rfl,h⟩:=castL_some h;subst h
   rfl),
 (fun h=>by cases h)⟩
def TJ13:R2 13:=⟨ES13,DC13,fun x=>.agg (ES13 x),fun s=>aggC DC13 s,true,ES13_iff,DC13_ok,
 (fun _ m ids s x y h hd=>by
   obtain⟨l,rfl,h⟩:=aggC_some h;rw [Den]at hd;obtain⟨us,rfl,hd⟩:=hd;have q:DL (TD13 x) m us:=DC13_ok h hd;refine⟨?_,?_⟩
   ·obtain⟨u0,r0,rfl,⟨rfl,_⟩,⟨u1,r1,rfl,⟨rfl,_⟩,⟨u2,r2,rfl,⟨rfl,_⟩,⟨u3,r3,rfl,⟨rfl,_⟩,hq⟩⟩⟩⟩:=q;cases hq;rfl
   ·show DL (TD13 x) m _
    simpa [Value.cells] using q),
 (fun _ _=>none),(fun _ _ _ h=>by cases h),
 (fun _ m ids x h=>by
   rw [Den]
   exact⟨_,rfl,(ES13_iff x).1 h⟩)⟩
def TJ14:R2 14:=⟨ES14,DC14,fun x=>.lst none 13 x,fun s=>asL 13 s,false,ES14_iff,DC14_ok,
 (fun h=>by cases h),
 (fun d l=>castL d 13 l),(fun d l x h=>by
   obtain⟨rfl,h⟩:=castL_some h;subst h
   rfl),
 (fun h=>by cases h)⟩
def TJ15:R2 15:=⟨ES15,DC15,fun x=>.lst none 1 x,fun s=>asL 1 s,false,ES15_iff,DC15_ok,
 (fun h=>by cases h),
 (fun d l=>castL d 1 l),(fun d l x h=>by
   obtain⟨rfl,h⟩:=castL_some h;subst h
   rfl),
 (fun h=>by cases h)⟩
def TJ16:R2 16:=⟨ES16,DC16,fun x=>.agg (ES16 x),fun s=>aggC DC16 s,false,ES16_iff,DC16_ok,
 (fun h=>by cases h),
 (fun _ _=>none),(fun _ _ _ h=>by cases h),
 (fun h=>by cases h)⟩
def TJ17:R2 17:=⟨ES17,DC17,fun x=>.lst none 16 x,fun s=>asL 16 s,false,ES17_iff,DC17_ok,
 (fun h=>by cases h),
 (fun d l=>castL d 16 l),(fun d l x h=>by
   obtain⟨rfl,h⟩:=castL_some h;subst h
   rfl),
 (fun h=>by cases h)⟩
def TJ18:R2 18:=⟨ES18,DC18,fun x=>.agg (ES18 x),fun s=>aggC DC18 s,true,ES18_iff,DC18_ok,
 (fun _ m ids s x y h hd=>by
   obtain⟨l,rfl,h⟩:=aggC_some h;rw [Den]at hd;obtain⟨us,rfl,hd⟩:=hd;have q:DL (TD18 x) m us:=DC18_ok h hd;refine⟨?_,?_⟩
   ·obtain⟨u0,r0,rfl,⟨rfl,_⟩,⟨u1,r1,rfl,⟨rfl,_⟩,⟨u2,r2,rfl,⟨rfl,_⟩,⟨u3,r3,rfl,⟨rfl,_⟩,hq⟩⟩⟩⟩:=q;cases hq;rfl
   ·show DL (TD18 x) m _
    simpa [Value.cells] using q),
 (fun _ _=>none),(fun _ _ _ h=>by cases h),
 (fun _ m ids x h=>by
   rw [Den]
   exact⟨_,rfl,(ES18_iff x).1 h⟩)⟩
def TJ19:R2 19:=⟨ES19,DC19,fun x=>.lst none 18 x,fun s=>asL 18 s,false,ES19_iff,DC19_ok,
 (fun h=>by cases h),
 (fun d l=>castL d 18 l),(fun d l x h=>by
   obtain⟨rfl,h⟩:=castL_some h;subst h
   rfl),
 (fun h=>by cases h)⟩
def TJ20:R2 20:=⟨ES20,DC20,fun x=>.agg (ES20 x),fun s=>aggC DC20 s,true,ES20_iff,DC20_ok,
 (fun _ m ids s x y h hd=>by
   obtain⟨l,rfl,h⟩:=aggC_some h;rw [Den]at hd;obtain⟨us,rfl,hd⟩:=hd;have q:DL (TD20 x) m us:=DC20_ok h hd;refine⟨?_,?_⟩
   ·obtain⟨u0,r0,rfl,⟨rfl,_⟩,⟨u1,r1,rfl,⟨rfl,_⟩,⟨u2,r2,rfl,⟨rfl,_⟩,⟨u3,r3,rfl,⟨rfl,_⟩,hq⟩⟩⟩⟩:=q;cases hq;rfl
   ·show DL (TD20 x) m _
    simpa [Value.cells] using q),
 (fun _ _=>none),(fun _ _ _ h=>by cases h),
 (fun _ m ids x h=>by
   rw [Den]
   exact⟨_,rfl,(ES20_iff x).1 h⟩)⟩
def TJ21:R2 21:=⟨ES21,DC21,fun x=>.lst none 20 x,fun s=>asL 20 s,false,ES21_iff,DC21_ok,
 (fun h=>by cases h),
 (fun d l=>castL d 20 l),(fun d l x h=>by
   obtain⟨rfl,h⟩:=castL_some h;subst h
   rfl),
 (fun h=>by cases h)⟩
def TJ22:R2 22:=⟨ES22,DC22,fun x=>.agg (ES22 x),fun s=>aggC DC22 s,true,ES22_iff,DC22_ok,
 (fun _ m ids s x y h hd=>by
   obtain⟨l,rfl,h⟩:=aggC_some h;rw [Den]at hd;obtain⟨us,rfl,hd⟩:=hd;have q:DL (TD22 x) m us:=DC22_ok h hd;refine⟨?_,?_⟩
   ·obtain⟨u0,r0,rfl,⟨rfl,_⟩,⟨u1,r1,rfl,⟨rfl,_⟩,hq⟩⟩:=q;cases hq;rfl
   ·show DL (TD22 x) m _
    simpa [Value.cells] using q),
 (fun _ _=>none),(fun _ _ _ h=>by cases h),
 (fun _ m ids x h=>by
   rw [Den]
   exact⟨_,rfl,(ES22_iff x).1 h⟩)⟩
def TJ23:R2 23:=⟨ES23,DC23,fun x=>.lst none 22 x,fun s=>asL 22 s,false,ES23_iff,DC23_ok,
 (fun h=>by cases h),
 (fun d l=>castL d 22 l),(fun d l x h=>by
   obtain⟨rfl,h⟩:=castL_some h;subst h
   rfl),
 (fun h=>by cases h)⟩
def TJ24:R2 24:=⟨ES24,DC24,fun x=>.agg (ES24 x),fun s=>aggC DC24 s,true,ES24_iff,DC24_ok,
 (fun _ m ids s x y h hd=>by
   obtain⟨l,rfl,h⟩:=aggC_some h;rw [Den]at hd;obtain⟨us,rfl,hd⟩:=hd;have q:DL (TD24 x) m us:=DC24_ok h hd;refine⟨?_,?_⟩
   ·obtain⟨u0,r0,rfl,⟨rfl,_⟩,⟨u1,r1,rfl,⟨rfl,_⟩,⟨u2,r2,rfl,⟨rfl,_⟩,⟨u3,r3,rfl,⟨rfl,_⟩,⟨u4,r4,rfl,⟨rfl,_⟩,⟨u5,r5,rfl,⟨rfl,_⟩,hq⟩⟩⟩⟩⟩⟩:=q;cases hq;rfl
   ·show DL (TD24 x) m _
    simpa [Value.cells] using q),
 (fun _ _=>none),(fun _ _ _ h=>by cases h),
 (fun _ m ids x h=>by
   rw [Den]
   exact⟨_,rfl,(ES24_iff x).1 h⟩)⟩
def TJ25:R2 25:=⟨ES25,DC25,fun x=>.lst none 24 x,fun s=>asL 24 s,false,ES25_iff,DC25_ok,
 (fun h=>by cases h),
 (fun d l=>castL d 24 l),(fun d l x h=>by
   obtain⟨rfl,h⟩:=castL_some h;subst h
   rfl),
 (fun h=>by cases h)⟩
def TJ26:R2 26:=⟨ES26,DC26,fun x=>.agg (ES26 x),fun s=>aggC DC26 s,true,ES26_iff,DC26_ok,
 (fun _ m ids s x y h hd=>by
   obtain⟨l,rfl,h⟩:=aggC_some h;rw [Den]at hd;obtain⟨us,rfl,hd⟩:=hd;have q:DL (TD26 x) m us:=DC26_ok h hd;refine⟨?_,?_⟩
   ·obtain⟨u0,r0,rfl,⟨rfl,_⟩,⟨u1,r1,rfl,⟨rfl,_⟩,⟨u2,r2,rfl,⟨rfl,_⟩,⟨u3,r3,rfl,⟨rfl,_⟩,⟨u4,r4,rfl,⟨rfl,_⟩,⟨u5,r5,rfl,⟨rfl,_⟩,hq⟩⟩⟩⟩⟩⟩:=q;cases hq;rfl
   ·show DL (TD26 x) m _
    simpa [Value.cells] using q),
 (fun _ _=>none),(fun _ _ _ h=>by cases h),
 (fun _ m ids x h=>by
   rw [Den]
   exact⟨_,rfl,(ES26_iff x).1 h⟩)⟩
def TJ27:R2 27:=⟨ES27,DC27,fun x=>.lst none 26 x,fun s=>asL 26 s,false,ES27_iff,DC27_ok,
 (fun h=>by cases h),
 (fun d l=>castL d 26 l),(fun d l x h=>by
   obtain⟨rfl,h⟩:=castL_some h;subst h
   rfl),
 (fun h=>by cases h)⟩
def TJ28:R2 28:=⟨ES28,DC28,fun x=>.agg (ES28 x),fun s=>aggC DC28 s,true,ES28_iff,DC28_ok,
 (fun _ m ids s x y h hd=>by
   obtain⟨l,rfl,h⟩:=aggC_some h;rw [Den]at hd;obtain⟨us,rfl,hd⟩:=hd;have q:DL (TD28 x) m us:=DC28_ok h hd;refine⟨?_,?_⟩
   ·obtain⟨u0,r0,rfl,⟨rfl,_⟩,⟨u1,r1,rfl,⟨rfl,_⟩,⟨u2,r2,rfl,⟨rfl,_⟩,⟨u3,r3,rfl,⟨rfl,_⟩,hq⟩⟩⟩⟩:=q;cases hq;rfl
   ·show DL (TD28 x) m _
    simpa [Value.cells] using q),
 (fun _ _=>none),(fun _ _ _ h=>by cases h),
 (fun _ m ids x h=>by
   rw [Den]
   exact⟨_,rfl,(ES28_iff x).1 h⟩)⟩
def TJ29:R2 29:=⟨ES29,DC29,fun x=>.lst none 28 x,fun s=>asL 28 s,false,ES29_iff,DC29_ok,
 (fun h=>by cases h),
 (fun d l=>castL d 28 l),(fun d l x h=>by
   obtain⟨rfl,h⟩:=castL_some h;subst h
   rfl),
 (fun h=>by cases h)⟩
def TJ30:R2 30:=⟨ES30,DC30,fun x=>.agg (ES30 x),fun s=>aggC DC30 s,false,ES30_iff,DC30_ok,
 (fun h=>by cases h),
 (fun _ _=>none),(fun _ _ _ h=>by cases h),
 (fun h=>by cases h)⟩
def TJ31:R2 31:=⟨ES31,DC31,fun x=>.agg (ES31 x),fun s=>aggC DC31 s,true,ES31_iff,DC31_ok,
 (fun _ m ids s x y h hd=>by
   obtain⟨l,rfl,h⟩:=aggC_some h;rw [Den]at hd;obtain⟨us,rfl,hd⟩:=hd;have q:DL (TD31 x) m us:=DC31_ok h hd;refine⟨?_,?_⟩
   ·obtain⟨u0,r0,rfl,⟨rfl,_⟩,⟨u1,r1,rfl,⟨rfl,_⟩,⟨u2,r2,rfl,⟨rfl,_⟩,hq⟩⟩⟩:=q;cases hq;rfl
   ·show DL (TD31 x) m _
    simpa [Value.cells] using q),
 (fun _ _=>none),(fun _ _ _ h=>by cases h),
 (fun _ m ids x h=>by
   rw [Den]
   exact⟨_,rfl,(ES31_iff x).1 h⟩)⟩
def TJ32:R2 32:=⟨ES32,DC32,fun x=>.lst none 31 x,fun s=>asL 31 s,false,ES32_iff,DC32_ok,
 (fun h=>by cases h),
 (fun d l=>castL d 31 l),(fun d l x h=>by
   obtain⟨rfl,h⟩:=castL_some h;subst h
   rfl),
 (fun h=>by cases h)⟩
def TJ33:R2 33:=⟨ES33,DC33,fun x=>.agg (ES33 x),fun s=>aggC DC33 s,false,ES33_iff,DC33_ok,
 (fun h=>by cases h),
 (fun _ _=>none),(fun _ _ _ h=>by cases h),
 (fun h=>by cases h)⟩
def TJ34:R2 34:=⟨ES34,DC34,fun x=>.lst none 33 x,fun s=>asL 33 s,false,ES34_iff,DC34_ok,
 (fun h=>by cases h),
 (fun d l=>castL d 33 l),(fun d l x h=>by
   obtain⟨rfl,h⟩:=castL_some h;subst h
   rfl),
 (fun h=>by cases h)⟩
def TJ35:R2 35:=⟨ES35,DC35,fun x=>.agg (ES35 x),fun s=>aggC DC35 s,false,ES35_iff,DC35_ok,
 (fun h=>by cases h),
 (fun _ _=>none),(fun _ _ _ h=>by cases h),
 (fun h=>by cases h)⟩
def TJ36:R2 36:=⟨ES36,DC36,fun x=>.agg (ES36 x),fun s=>aggC DC36 s,false,ES36_iff,DC36_ok,
 (fun h=>by cases h),
 (fun _ _=>none),(fun _ _ _ h=>by cases h),
 (fun h=>by cases h)⟩
def TJ37:R2 37:=⟨ES37,DC37,fun x=>.agg (ES37 x),fun s=>aggC DC37 s,true,ES37_iff,DC37_ok,
 (fun _ m ids s x y h hd=>by
   obtain⟨l,rfl,h⟩:=aggC_some h;rw [Den]at hd;obtain⟨us,rfl,hd⟩:=hd;have q:DL (TD37 x) m us:=DC37_ok h hd;refine⟨?_,?_⟩
   ·obtain⟨u0,r0,rfl,⟨rfl,_⟩,⟨u1,r1,rfl,⟨rfl,_⟩,hq⟩⟩:=q;cases hq;rfl
   ·show DL (TD37 x) m _
    simpa [Value.cells] using q),
 (fun _ _=>none),(fun _ _ _ h=>by cases h),
 (fun _ m ids x h=>by
   rw [Den]
   exact⟨_,rfl,(ES37_iff x).1 h⟩)⟩
def TJ38:R2 38:=⟨ES38,DC38,fun x=>.agg (ES38 x),fun s=>aggC DC38 s,true,ES38_iff,DC38_ok,
 (fun _ m ids s x y h hd=>by
   obtain⟨l,rfl,h⟩:=aggC_some h;rw [Den]at hd;obtain⟨us,rfl,hd⟩:=hd;have q:DL (TD38 x) m us:=DC38_ok h hd;refine⟨?_,?_⟩
   ·obtain⟨u0,r0,rfl,⟨rfl,_⟩,⟨u1,r1,rfl,⟨rfl,_⟩,hq⟩⟩:=q;cases hq;rfl
   ·show DL (TD38 x) m _
    simpa [Value.cells] using q),
 (fun _ _=>none),(fun _ _ _ h=>by cases h),
 (fun _ m ids x h=>by
   rw [Den]
   exact⟨_,rfl,(ES38_iff x).1 h⟩)⟩
def TJ39:R2 39:=⟨ES39,DC39,fun x=>.agg (ES39 x),fun s=>aggC DC39 s,true,ES39_iff,DC39_ok,
 (fun _ m ids s x y h hd=>by
   obtain⟨l,rfl,h⟩:=aggC_some h;rw [Den]at hd;obtain⟨us,rfl,hd⟩:=hd;have q:DL (TD39 x) m us:=DC39_ok h hd;refine⟨?_,?_⟩
   ·obtain⟨u0,r0,rfl,⟨rfl,_⟩,⟨u1,r1,rfl,⟨rfl,_⟩,hq⟩⟩:=q;cases hq;rfl
   ·show DL (TD39 x) m _
    simpa [Value.cells] using q),
 (fun _ _=>none),(fun _ _ _ h=>by cases h),
 (fun _ m ids x h=>by
   rw [Den]
   exact⟨_,rfl,(ES39_iff x).1 h⟩)⟩
def TJ40:R2 40:=⟨ES40,DC40,fun x=>.lst none 39 x,fun s=>asL 39 s,false,ES40_iff,DC40_ok,
 (fun h=>by cases h),
 (fun d l=>castL d 39 l),(fun d l x h=>by
   obtain⟨rfl,h⟩:=castL_some h;subst h
   rfl),
 (fun h=>by cases h)⟩
def TJ41:R2 41:=⟨ES41,DC41,fun x=>.lst none 3 x,fun s=>asL 3 s,false,ES41_iff,DC41_ok,
 (fun h=>by cases h),
 (fun d l=>castL d 3 l),(fun d l x h=>by
   obtain⟨rfl,h⟩:=castL_some h;subst h
   rfl),
 (fun h=>by cases h)⟩
def TJ42:R2 42:=⟨ES42,DC42,fun x=>.lst none 12 x,fun s=>asL 12 s,false,ES42_iff,DC42_ok,
 (fun h=>by cases h),
 (fun d l=>castL d 12 l),(fun d l x h=>by
   obtain⟨rfl,h⟩:=castL_some h;subst h
   rfl),
 (fun h=>by cases h)⟩
def TJ43:R2 43:=⟨ES43,DC43,fun x=>.agg (ES43 x),fun s=>aggC DC43 s,false,ES43_iff,DC43_ok,
 (fun h=>by cases h),
 (fun _ _=>none),(fun _ _ _ h=>by cases h),
 (fun h=>by cases h)⟩
def TJ44:R2 44:=⟨ES44,DC44,fun x=>.agg (ES44 x),fun s=>aggC DC44 s,true,ES44_iff,DC44_ok,
 (fun _ m ids s x y h hd=>by
   obtain⟨l,rfl,h⟩:=aggC_some h;rw [Den]at hd;obtain⟨us,rfl,hd⟩:=hd;have q:DL (TD44 x) m us:=DC44_ok h hd;refine⟨?_,?_⟩
   ·obtain⟨u0,r0,rfl,⟨rfl,_⟩,⟨u1,r1,rfl,⟨rfl,_⟩,hq⟩⟩:=q;cases hq;rfl
   ·show DL (TD44 x) m _
    simpa [Value.cells] using q),
 (fun _ _=>none),(fun _ _ _ h=>by cases h),
 (fun _ m ids x h=>by
   rw [Den]
   exact⟨_,rfl,(ES44_iff x).1 h⟩)⟩
def TJ45:R2 45:=⟨ES45,DC45,fun x=>.lst none 44 x,fun s=>asL 44 s,false,ES45_iff,DC45_ok,
 (fun h=>by cases h),
 (fun d l=>castL d 44 l),(fun d l x h=>by
   obtain⟨rfl,h⟩:=castL_some h;subst h
   rfl),
 (fun h=>by cases h)⟩
def Tab2:RT2:=(.nd (.nd (.nd (.nd (.nd (.nd .lf 0 TJ0 .lf) 1 TJ1 .lf) 2 TJ2 (.nd (.nd .lf 3 TJ3 .lf) 4 TJ4 .lf)) 5 TJ5 (.nd (.nd (.nd .lf 6 TJ6 .lf) 7 TJ7 .lf) 8 TJ8 (.nd (.nd .lf 9 TJ9 .lf) 10 TJ10 .lf))) 11 TJ11 (.nd (.nd (.nd (.nd .lf 12 TJ12 .lf) 13 TJ13 .lf) 14 TJ14 (.nd (.nd .lf 15 TJ15 .lf) 16 TJ16 .lf)) 17 TJ17 (.nd (.nd (.nd .lf 18 TJ18 .lf) 19 TJ19 .lf) 20 TJ20 (.nd (.nd .lf 21 TJ21 .lf) 22 TJ22 .lf)))) 23 TJ23 (.nd (.nd (.nd (.nd (.nd .lf 24 TJ24 .lf) 25 TJ25 .lf) 26 TJ26 (.nd (.nd .lf 27 TJ27 .lf) 28 TJ28 .lf)) 29 TJ29 (.nd (.nd (.nd .lf 30 TJ30 .lf) 31 TJ31 .lf) 32 TJ32 (.nd (.nd .lf 33 TJ33 .lf) 34 TJ34 .lf))) 35 TJ35 (.nd (.nd (.nd (.nd .lf 36 TJ36 .lf) 37 TJ37 .lf) 38 TJ38 (.nd (.nd .lf 39 TJ39 .lf) 40 TJ40 .lf)) 41 TJ41 (.nd (.nd (.nd .lf 42 TJ42 .lf) 43 TJ43 .lf) 44 TJ44 (.nd .lf 45 TJ45 .lf)))))
def RT2.get:RT2→(c:Nat)→Option (R2 c)
 |.lf,_=>none
 |.nd l k v r,c=>match Nat.decEq k c with
   |isTrue h=>some (h▸v)
   |isFalse _=>match Nat.blt c k with
     |true=>l.get c
     |false=>r.get c
def ES (c:Nat) (x:TabT c):Option (List SV):=match Tab2.get c with
 |some q=>some (q.E x)
 |none=>none
def DC (c:Nat) (l:List SV):Option (TabT c):=match Tab2.get c with
 |some q=>q.C l
 |none=>none
def VS (c:Nat) (x:TabT c):SV:=match Tab2.get c with
 |some q=>q.S x
 |none=>.un
def DV (c:Nat) (s:SV):Option (TabT c):=match Tab2.get c with
 |some q=>q.V s
 |none=>none
def RW (c d:Nat) (l:List (TabT d)):Option (TabT c):=match Tab2.get c with
 |some q=>q.rw d l
 |none=>none
theorem RW_ok {c d:Nat} {l:List (TabT d)} {x:TabT c} (h:RW c d l=some x):ES c x=some [.lst none d l]:=by
 unfold RW at h;unfold ES;split at h
 ·rename_i q hq;show some (q.E x)=_;rw [q.rwi d l x h]
 ·cases h
def gnd (c:Nat):Bool:=match Tab2.get c with
 |some q=>q.g
 |none=>false
theorem ES_iff {m:Mm} {ids us:List Value} (c:Nat) (x:TabT c) {l:List SV} (h:ES c x=some l):DL (TabD c x) m us↔DenL m ids l us:=by
 unfold ES at h;split at h
 ·rename_i q _;cases h;exact q.Ei x
 ·cases h
theorem DC_ok {m:Mm} {ids us:List Value} (c:Nat) {l:List SV} {x:TabT c} (h:DC c l=some x) (hd:DenL m ids l us):DL (TabD c x) m us:=by
 unfold DC at h;split at h
 ·rename_i q _;exact q.Ci h hd
 ·cases h
theorem GV {m:Mm} {ids:List Value} (c:Nat) (hg:gnd c=true) {s:SV} {x:TabT c} {y:Value} (h:DV c s=some x) (hd:Den m ids s y):y=TV c x∧DL (TabD c x) m y.cells.toList:=by
 unfold DV at h;unfold gnd at hg;split at h
 ·rename_i q hq;rw [hq]at hg;exact q.Vi hg h hd
 ·cases h
theorem VS_ok {m:Mm} {ids:List Value} (c:Nat) (hg:gnd c=true) {x:TabT c} (h:DL (TabD c x) m (TV c x).cells.toList):Den m ids (VS c x) (TV c x):=by
 unfold VS;unfold gnd at hg;split
 ·rename_i q hq;rw [hq]at hg;exact q.Si hg h
 ·rw [Den];trivial
end Go.SX
