/- A part of the proof (texts Read2, HcS). -/
import Derived.KernelRfl
import Derived.Test.YtobpljbkdffkbaaGreatP12
import Derived.Test.YtobpljbkdffkbaaGreatP14
import Derived.Test.YtobpljbkdffkbaaGreatProg
set_option linter.all false
set_option maxRecDepth 100000
namespace Go.SX
open Go.XK Go.RowKit
section
variable {H:Type} {enc:TypeId×Value→H} {W:World} {base:Nat}
def QTPlaced (y:TPlaced) (N:Nat):Prop:=QS y.Obj N∧QS y.Sec N∧QS y.Digest N∧QS y.Form N
theorem QTPlaced.mono {y:TPlaced} {n m:Nat} (h:QTPlaced y n) (k:n+1≤m):QTPlaced y m:=⟨QS.mono (h.1) k,QS.mono (h.2.1) k,QS.mono (h.2.2.1) k,QS.mono (h.2.2.2) k⟩
theorem rd_TPlaced:RdQ enc Proofs.Tryz.prog W base 90 7 TD6 QTPlaced:=by
 intro held n cs x hl h hb;obtain⟨y0,m0,d0,q0,b0⟩:=rd_of (K:=7) Proofs.Tryz.underlying90 h hb hl 0 _ rfl rfl rfl (k:=1) (by kernel_rfl) (by decide) (rd_str Proofs.Tryz.underlying9)
 obtain⟨y1,m1,d1,q1,b1⟩:=rd_of (K:=7) Proofs.Tryz.underlying90 h hb hl 1 _ rfl rfl rfl (k:=1) (by kernel_rfl) (by decide) (rd_str Proofs.Tryz.underlying9)
 obtain⟨y2,m2,d2,q2,b2⟩:=rd_of (K:=7) Proofs.Tryz.underlying90 h hb hl 2 _ rfl rfl rfl (k:=1) (by kernel_rfl) (by decide) (rd_int Proofs.Tryz.underlying3)
 obtain⟨y3,m3,d3,q3,b3⟩:=rd_of (K:=7) Proofs.Tryz.underlying90 h hb hl 3 _ rfl rfl rfl (k:=1) (by kernel_rfl) (by decide) (rd_int Proofs.Tryz.underlying3)
 obtain⟨y4,m4,d4,q4,b4⟩:=rd_of (K:=7) Proofs.Tryz.underlying90 h hb hl 4 _ rfl rfl rfl (k:=1) (by kernel_rfl) (by decide) (rd_int Proofs.Tryz.underlying3)
 obtain⟨y5,m5,d5,q5,b5⟩:=rd_of (K:=7) Proofs.Tryz.underlying90 h hb hl 5 _ rfl rfl rfl (k:=1) (by kernel_rfl) (by decide) (rd_str Proofs.Tryz.underlying9)
 obtain⟨y6,m6,d6,q6,b6⟩:=rd_of (K:=7) Proofs.Tryz.underlying90 h hb hl 6 _ rfl rfl rfl (k:=1) (by kernel_rfl) (by decide) (rd_str Proofs.Tryz.underlying9)
 exact⟨⟨y0,y1,y2,y3,y4,y5,y6⟩,(DL.field (o:=0) (k:=1) d0 (DL.field (o:=1) (k:=1) d1 (DL.field (o:=2) (k:=1) d2 (DL.field (o:=3) (k:=1) d3 (DL.field (o:=4) (k:=1) d4 (DL.field (o:=5) (k:=1) d5 (DL.field (o:=6) (k:=1) d6 (DL.last hl)))))))),q0.mono b0,q1.mono b1,q5.mono b5,q6.mono b6⟩
def QTExport (y:TExport) (N:Nat):Prop:=QS y.Name N∧QS y.Version N
theorem QTExport.mono {y:TExport} {n m:Nat} (h:QTExport y n) (k:n+1≤m):QTExport y m:=⟨QS.mono (h.1) k,QS.mono (h.2) k⟩
theorem rd_TExport:RdQ enc Proofs.Tryz.prog W base 100 6 TD8 QTExport:=by
 intro held n cs x hl h hb;obtain⟨y0,m0,d0,q0,b0⟩:=rd_of (K:=6) Proofs.Tryz.underlying100 h hb hl 0 _ rfl rfl rfl (k:=1) (by kernel_rfl) (by decide) (rd_str Proofs.Tryz.underlying9)
 obtain⟨y1,m1,d1,q1,b1⟩:=rd_of (K:=6) Proofs.Tryz.underlying100 h hb hl 1 _ rfl rfl rfl (k:=1) (by kernel_rfl) (by decide) (rd_str Proofs.Tryz.underlying9)
 obtain⟨y2,m2,d2,q2,b2⟩:=rd_of (K:=6) Proofs.Tryz.underlying100 h hb hl 2 _ rfl rfl rfl (k:=1) (by kernel_rfl) (by decide) (rd_bool Proofs.Tryz.underlying4)
 obtain⟨y3,m3,d3,q3,b3⟩:=rd_of (K:=6) Proofs.Tryz.underlying100 h hb hl 3 _ rfl rfl rfl (k:=1) (by kernel_rfl) (by decide) (rd_int Proofs.Tryz.underlying3)
 obtain⟨y4,m4,d4,q4,b4⟩:=rd_of (K:=6) Proofs.Tryz.underlying100 h hb hl 4 _ rfl rfl rfl (k:=1) (by kernel_rfl) (by decide) (rd_int Proofs.Tryz.underlying3)
 obtain⟨y5,m5,d5,q5,b5⟩:=rd_of (K:=6) Proofs.Tryz.underlying100 h hb hl 5 _ rfl rfl rfl (k:=1) (by kernel_rfl) (by decide) (rd_int Proofs.Tryz.underlying3)
 exact⟨⟨y0,y1,y2,y3,y4,y5⟩,(DL.field (o:=0) (k:=1) d0 (DL.field (o:=1) (k:=1) d1 (DL.field (o:=2) (k:=1) d2 (DL.field (o:=3) (k:=1) d3 (DL.field (o:=4) (k:=1) d4 (DL.field (o:=5) (k:=1) d5 (DL.last hl))))))),q0.mono b0,q1.mono b1⟩
def QTImport (y:TImport) (N:Nat):Prop:=QS y.Name N∧QS y.Version N
theorem QTImport.mono {y:TImport} {n m:Nat} (h:QTImport y n) (k:n+1≤m):QTImport y m:=⟨QS.mono (h.1) k,QS.mono (h.2) k⟩
theorem rd_TImport:RdQ enc Proofs.Tryz.prog W base 107 5 TD10 QTImport:=by
 intro held n cs x hl h hb;obtain⟨y0,m0,d0,q0,b0⟩:=rd_of (K:=5) Proofs.Tryz.underlying107 h hb hl 0 _ rfl rfl rfl (k:=1) (by kernel_rfl) (by decide) (rd_str Proofs.Tryz.underlying9)
 obtain⟨y1,m1,d1,q1,b1⟩:=rd_of (K:=5) Proofs.Tryz.underlying107 h hb hl 1 _ rfl rfl rfl (k:=1) (by kernel_rfl) (by decide) (rd_str Proofs.Tryz.underlying9)
 obtain⟨y2,m2,d2,q2,b2⟩:=rd_of (K:=5) Proofs.Tryz.underlying107 h hb hl 2 _ rfl rfl rfl (k:=1) (by kernel_rfl) (by decide) (rd_int Proofs.Tryz.underlying3)
 obtain⟨y3,m3,d3,q3,b3⟩:=rd_of (K:=5) Proofs.Tryz.underlying107 h hb hl 3 _ rfl rfl rfl (k:=1) (by kernel_rfl) (by decide) (rd_bool Proofs.Tryz.underlying4)
 obtain⟨y4,m4,d4,q4,b4⟩:=rd_of (K:=5) Proofs.Tryz.underlying107 h hb hl 4 _ rfl rfl rfl (k:=1) (by kernel_rfl) (by decide) (rd_bool Proofs.Tryz.underlying4)
 exact⟨⟨y0,y1,y2,y3,y4⟩,(DL.field (o:=0) (k:=1) d0 (DL.field (o:=1) (k:=1) d1 (DL.field (o:=2) (k:=1) d2 (DL.field (o:=3) (k:=1) d3 (DL.field (o:=4) (k:=1) d4 (DL.last hl)))))),q0.mono b0,q1.mono b1⟩
def QTDyn (y:TDyn) (N:Nat):Prop:=QT y N
theorem QTDyn.mono {y:TDyn} {n m:Nat} (h:QTDyn y n) (k:n+1≤m):QTDyn y m:=QT.mono h k
theorem rd_TDyn:RdQ enc Proofs.Tryz.prog W base 110 4 TD13 QTDyn:=by
 intro held n cs x hl h hb;obtain⟨y0,m0,d0,q0,b0⟩:=rd_of (K:=4) Proofs.Tryz.underlying110 h hb hl 0 _ rfl rfl rfl (k:=1) (by kernel_rfl) (by decide) (rd_int Proofs.Tryz.underlying3)
 obtain⟨y1,m1,d1,q1,b1⟩:=rd_of (K:=4) Proofs.Tryz.underlying110 h hb hl 1 _ rfl rfl rfl (k:=1) (by kernel_rfl) (by decide) (rd_int Proofs.Tryz.underlying3)
 obtain⟨y2,m2,d2,q2,b2⟩:=rd_of (K:=4) Proofs.Tryz.underlying110 h hb hl 2 _ rfl rfl rfl (k:=1) (by kernel_rfl) (by decide) (rd_int Proofs.Tryz.underlying3)
 obtain⟨y3,m3,d3,q3,b3⟩:=rd_of (K:=4) Proofs.Tryz.underlying110 h hb hl 3 _ rfl rfl rfl (k:=1) (by kernel_rfl) (by decide) (rd_int Proofs.Tryz.underlying3)
 exact⟨⟨y0,y1,y2,y3⟩,(DL.field (o:=0) (k:=1) d0 (DL.field (o:=1) (k:=1) d1 (DL.field (o:=2) (k:=1) d2 (DL.field (o:=3) (k:=1) d3 (DL.last hl))))),trivial⟩
def QTVersionDef (y:TVersionDef) (N:Nat):Prop:=QS y.Name N∧(QL QS) y.Parents N
theorem QTVersionDef.mono {y:TVersionDef} {n m:Nat} (h:QTVersionDef y n) (k:n+1≤m):QTVersionDef y m:=⟨QS.mono (h.1) k,QL.mono (h.2) k⟩
theorem rd_TVersionDef:RdQ enc Proofs.Tryz.prog W base 153 2 TD16 QTVersionDef:=by
 intro held n cs x hl h hb;obtain⟨y0,m0,d0,q0,b0⟩:=rd_of (K:=2) Proofs.Tryz.underlying153 h hb hl 0 _ rfl rfl rfl (k:=1) (by kernel_rfl) (by decide) (rd_str Proofs.Tryz.underlying9)
 obtain⟨y1,m1,d1,q1,b1⟩:=rd_of (K:=2) Proofs.Tryz.underlying153 h hb hl 1 _ rfl rfl rfl (k:=1) (by kernel_rfl) (by decide) (rd_slice (B:=16) Proofs.Tryz.underlying27 (by kernel_rfl) (by decide) (by decide) (rd_str Proofs.Tryz.underlying9))
 exact⟨⟨y0,y1⟩,(DL.field (o:=0) (k:=1) d0 (DL.field (o:=1) (k:=1) d1 (DL.last hl))),q0.mono b0,q1.mono b1⟩
def QTMark (y:TMark) (N:Nat):Prop:=QS y.Name N
theorem QTMark.mono {y:TMark} {n m:Nat} (h:QTMark y n) (k:n+1≤m):QTMark y m:=QS.mono h k
theorem rd_TMark:RdQ enc Proofs.Tryz.prog W base 53 4 TD18 QTMark:=by
 intro held n cs x hl h hb;obtain⟨y0,m0,d0,q0,b0⟩:=rd_of (K:=4) Proofs.Tryz.underlying53 h hb hl 0 _ rfl rfl rfl (k:=1) (by kernel_rfl) (by decide) (rd_str Proofs.Tryz.underlying9)
 obtain⟨y1,m1,d1,q1,b1⟩:=rd_of (K:=4) Proofs.Tryz.underlying53 h hb hl 1 _ rfl rfl rfl (k:=1) (by kernel_rfl) (by decide) (rd_int Proofs.Tryz.underlying3)
 obtain⟨y2,m2,d2,q2,b2⟩:=rd_of (K:=4) Proofs.Tryz.underlying53 h hb hl 2 _ rfl rfl rfl (k:=1) (by kernel_rfl) (by decide) (rd_int Proofs.Tryz.underlying3)
 obtain⟨y3,m3,d3,q3,b3⟩:=rd_of (K:=4) Proofs.Tryz.underlying53 h hb hl 3 _ rfl rfl rfl (k:=1) (by kernel_rfl) (by decide) (rd_int Proofs.Tryz.underlying3)
 exact⟨⟨y0,y1,y2,y3⟩,(DL.field (o:=0) (k:=1) d0 (DL.field (o:=1) (k:=1) d1 (DL.field (o:=2) (k:=1) d2 (DL.field (o:=3) (k:=1) d3 (DL.last hl))))),q0.mono b0⟩
def QTLine (y:TLine) (N:Nat):Prop:=QS y.File N
theorem QTLine.mono {y:TLine} {n m:Nat} (h:QTLine y n) (k:n+1≤m):QTLine y m:=QS.mono h k
theorem rd_TLine:RdQ enc Proofs.Tryz.prog W base 43 4 TD20 QTLine:=by
 intro held n cs x hl h hb;obtain⟨y0,m0,d0,q0,b0⟩:=rd_of (K:=4) Proofs.Tryz.underlying43 h hb hl 0 _ rfl rfl rfl (k:=1) (by kernel_rfl) (by decide) (rd_int Proofs.Tryz.underlying3)
 obtain⟨y1,m1,d1,q1,b1⟩:=rd_of (K:=4) Proofs.Tryz.underlying43 h hb hl 1 _ rfl rfl rfl (k:=1) (by kernel_rfl) (by decide) (rd_int Proofs.Tryz.underlying3)
 obtain⟨y2,m2,d2,q2,b2⟩:=rd_of (K:=4) Proofs.Tryz.underlying43 h hb hl 2 _ rfl rfl rfl (k:=1) (by kernel_rfl) (by decide) (rd_str Proofs.Tryz.underlying9)
 obtain⟨y3,m3,d3,q3,b3⟩:=rd_of (K:=4) Proofs.Tryz.underlying43 h hb hl 3 _ rfl rfl rfl (k:=1) (by kernel_rfl) (by decide) (rd_int Proofs.Tryz.underlying3)
 exact⟨⟨y0,y1,y2,y3⟩,(DL.field (o:=0) (k:=1) d0 (DL.field (o:=1) (k:=1) d1 (DL.field (o:=2) (k:=1) d2 (DL.field (o:=3) (k:=1) d3 (DL.last hl))))),q2.mono b2⟩
def QTSpan (y:TSpan) (N:Nat):Prop:=QT y N
theorem QTSpan.mono {y:TSpan} {n m:Nat} (h:QTSpan y n) (k:n+1≤m):QTSpan y m:=QT.mono h k
theorem rd_TSpan:RdQ enc Proofs.Tryz.prog W base 65 2 TD22 QTSpan:=by
 intro held n cs x hl h hb;obtain⟨y0,m0,d0,q0,b0⟩:=rd_of (K:=2) Proofs.Tryz.underlying65 h hb hl 0 _ rfl rfl rfl (k:=1) (by kernel_rfl) (by decide) (rd_int Proofs.Tryz.underlying3)
 obtain⟨y1,m1,d1,q1,b1⟩:=rd_of (K:=2) Proofs.Tryz.underlying65 h hb hl 1 _ rfl rfl rfl (k:=1) (by kernel_rfl) (by decide) (rd_int Proofs.Tryz.underlying3)
 exact⟨⟨y0,y1⟩,(DL.field (o:=0) (k:=1) d0 (DL.field (o:=1) (k:=1) d1 (DL.last hl))),trivial⟩
def QTInline (y:TInline) (N:Nat):Prop:=QS y.Name N∧QS y.File N
theorem QTInline.mono {y:TInline} {n m:Nat} (h:QTInline y n) (k:n+1≤m):QTInline y m:=⟨QS.mono (h.1) k,QS.mono (h.2) k⟩
theorem rd_TInline:RdQ enc Proofs.Tryz.prog W base 57 6 TD24 QTInline:=by
 intro held n cs x hl h hb;obtain⟨y0,m0,d0,q0,b0⟩:=rd_of (K:=6) Proofs.Tryz.underlying57 h hb hl 0 _ rfl rfl rfl (k:=1) (by kernel_rfl) (by decide) (rd_int Proofs.Tryz.underlying3)
 obtain⟨y1,m1,d1,q1,b1⟩:=rd_of (K:=6) Proofs.Tryz.underlying57 h hb hl 1 _ rfl rfl rfl (k:=1) (by kernel_rfl) (by decide) (rd_int Proofs.Tryz.underlying3)
 obtain⟨y2,m2,d2,q2,b2⟩:=rd_of (K:=6) Proofs.Tryz.underlying57 h hb hl 2 _ rfl rfl rfl (k:=1) (by kernel_rfl) (by decide) (rd_int Proofs.Tryz.underlying3)
 obtain⟨y3,m3,d3,q3,b3⟩:=rd_of (K:=6) Proofs.Tryz.underlying57 h hb hl 3 _ rfl rfl rfl (k:=1) (by kernel_rfl) (by decide) (rd_str Proofs.Tryz.underlying9)
 obtain⟨y4,m4,d4,q4,b4⟩:=rd_of (K:=6) Proofs.Tryz.underlying57 h hb hl 4 _ rfl rfl rfl (k:=1) (by kernel_rfl) (by decide) (rd_str Proofs.Tryz.underlying9)
 obtain⟨y5,m5,d5,q5,b5⟩:=rd_of (K:=6) Proofs.Tryz.underlying57 h hb hl 5 _ rfl rfl rfl (k:=1) (by kernel_rfl) (by decide) (rd_int Proofs.Tryz.underlying3)
 exact⟨⟨y0,y1,y2,y3,y4,y5⟩,(DL.field (o:=0) (k:=1) d0 (DL.field (o:=1) (k:=1) d1 (DL.field (o:=2) (k:=1) d2 (DL.field (o:=3) (k:=1) d3 (DL.field (o:=4) (k:=1) d4 (DL.field (o:=5) (k:=1) d5 (DL.last hl))))))),q3.mono b3,q4.mono b4⟩
def QTVar (y:TVar) (N:Nat):Prop:=QS y.Name N
theorem QTVar.mono {y:TVar} {n m:Nat} (h:QTVar y n) (k:n+1≤m):QTVar y m:=QS.mono h k
theorem rd_TVar:RdQ enc Proofs.Tryz.prog W base 127 6 TD26 QTVar:=by
 intro held n cs x hl h hb;obtain⟨y0,m0,d0,q0,b0⟩:=rd_of (K:=6) Proofs.Tryz.underlying127 h hb hl 0 _ rfl rfl rfl (k:=1) (by kernel_rfl) (by decide) (rd_int Proofs.Tryz.underlying3)
 obtain⟨y1,m1,d1,q1,b1⟩:=rd_of (K:=6) Proofs.Tryz.underlying127 h hb hl 1 _ rfl rfl rfl (k:=1) (by kernel_rfl) (by decide) (rd_int Proofs.Tryz.underlying3)
 obtain⟨y2,m2,d2,q2,b2⟩:=rd_of (K:=6) Proofs.Tryz.underlying127 h hb hl 2 _ rfl rfl rfl (k:=1) (by kernel_rfl) (by decide) (rd_int Proofs.Tryz.underlying3)
 obtain⟨y3,m3,d3,q3,b3⟩:=rd_of (K:=6) Proofs.Tryz.underlying127 h hb hl 3 _ rfl rfl rfl (k:=1) (by kernel_rfl) (by decide) (rd_str Proofs.Tryz.underlying9)
 obtain⟨y4,m4,d4,q4,b4⟩:=rd_of (K:=6) Proofs.Tryz.underlying127 h hb hl 4 _ rfl rfl rfl (k:=1) (by kernel_rfl) (by decide) (rd_int Proofs.Tryz.underlying3)
 obtain⟨y5,m5,d5,q5,b5⟩:=rd_of (K:=6) Proofs.Tryz.underlying127 h hb hl 5 _ rfl rfl rfl (k:=1) (by kernel_rfl) (by decide) (rd_int Proofs.Tryz.underlying3)
 exact⟨⟨y0,y1,y2,y3,y4,y5⟩,(DL.field (o:=0) (k:=1) d0 (DL.field (o:=1) (k:=1) d1 (DL.field (o:=2) (k:=1) d2 (DL.field (o:=3) (k:=1) d3 (DL.field (o:=4) (k:=1) d4 (DL.field (o:=5) (k:=1) d5 (DL.last hl))))))),q3.mono b3⟩
def QTDepth (y:TDepth) (N:Nat):Prop:=QT y N
theorem QTDepth.mono {y:TDepth} {n m:Nat} (h:QTDepth y n) (k:n+1≤m):QTDepth y m:=QT.mono h k
theorem rd_TDepth:RdQ enc Proofs.Tryz.prog W base 133 4 TD28 QTDepth:=by
 intro held n cs x hl h hb;obtain⟨y0,m0,d0,q0,b0⟩:=rd_of (K:=4) Proofs.Tryz.underlying133 h hb hl 0 _ rfl rfl rfl (k:=1) (by kernel_rfl) (by decide) (rd_int Proofs.Tryz.underlying3)
 obtain⟨y1,m1,d1,q1,b1⟩:=rd_of (K:=4) Proofs.Tryz.underlying133 h hb hl 1 _ rfl rfl rfl (k:=1) (by kernel_rfl) (by decide) (rd_int Proofs.Tryz.underlying3)
 obtain⟨y2,m2,d2,q2,b2⟩:=rd_of (K:=4) Proofs.Tryz.underlying133 h hb hl 2 _ rfl rfl rfl (k:=1) (by kernel_rfl) (by decide) (rd_int Proofs.Tryz.underlying3)
 obtain⟨y3,m3,d3,q3,b3⟩:=rd_of (K:=4) Proofs.Tryz.underlying133 h hb hl 3 _ rfl rfl rfl (k:=1) (by kernel_rfl) (by decide) (rd_int Proofs.Tryz.underlying3)
 exact⟨⟨y0,y1,y2,y3⟩,(DL.field (o:=0) (k:=1) d0 (DL.field (o:=1) (k:=1) d1 (DL.field (o:=2) (k:=1) d2 (DL.field (o:=3) (k:=1) d3 (DL.last hl))))),trivial⟩
def QTInfo (y:TInfo) (N:Nat):Prop:=(QL QTMark) y.Marks N∧(QL QTLine) y.Lines N∧(QL QTSpan) y.Ends N∧(QL QTInline) y.Inlines N∧(QL QTVar) y.Vars N∧(QL QTDepth) y.Depths N
theorem QTInfo.mono {y:TInfo} {n m:Nat} (h:QTInfo y n) (k:n+1≤m):QTInfo y m:=⟨QL.mono (h.1) k,QL.mono (h.2.1) k,QL.mono (h.2.2.1) k,QL.mono (h.2.2.2.1) k,QL.mono (h.2.2.2.2.1) k,QL.mono (h.2.2.2.2.2) k⟩
theorem rd_TInfo:RdQ enc Proofs.Tryz.prog W base 36 6 TD30 QTInfo:=by
 intro held n cs x hl h hb;obtain⟨y0,m0,d0,q0,b0⟩:=rd_of (K:=6) Proofs.Tryz.underlying36 h hb hl 0 _ rfl rfl rfl (k:=1) (by kernel_rfl) (by decide) (rd_slice (B:=40) Proofs.Tryz.underlying29 (by kernel_rfl) (by decide) (by decide) rd_TMark)
 obtain⟨y1,m1,d1,q1,b1⟩:=rd_of (K:=6) Proofs.Tryz.underlying36 h hb hl 1 _ rfl rfl rfl (k:=1) (by kernel_rfl) (by decide) (rd_slice (B:=40) Proofs.Tryz.underlying30 (by kernel_rfl) (by decide) (by decide) rd_TLine)
 obtain⟨y2,m2,d2,q2,b2⟩:=rd_of (K:=6) Proofs.Tryz.underlying36 h hb hl 2 _ rfl rfl rfl (k:=1) (by kernel_rfl) (by decide) (rd_slice (B:=16) Proofs.Tryz.underlying31 (by kernel_rfl) (by decide) (by decide) rd_TSpan)
 obtain⟨y3,m3,d3,q3,b3⟩:=rd_of (K:=6) Proofs.Tryz.underlying36 h hb hl 3 _ rfl rfl rfl (k:=1) (by kernel_rfl) (by decide) (rd_slice (B:=64) Proofs.Tryz.underlying32 (by kernel_rfl) (by decide) (by decide) rd_TInline)
 obtain⟨y4,m4,d4,q4,b4⟩:=rd_of (K:=6) Proofs.Tryz.underlying36 h hb hl 4 _ rfl rfl rfl (k:=1) (by kernel_rfl) (by decide) (rd_slice (B:=56) Proofs.Tryz.underlying33 (by kernel_rfl) (by decide) (by decide) rd_TVar)
 obtain⟨y5,m5,d5,q5,b5⟩:=rd_of (K:=6) Proofs.Tryz.underlying36 h hb hl 5 _ rfl rfl rfl (k:=1) (by kernel_rfl) (by decide) (rd_slice (B:=32) Proofs.Tryz.underlying34 (by kernel_rfl) (by decide) (by decide) rd_TDepth)
 exact⟨⟨y0,y1,y2,y3,y4,y5⟩,(DL.field (o:=0) (k:=1) d0 (DL.field (o:=1) (k:=1) d1 (DL.field (o:=2) (k:=1) d2 (DL.field (o:=3) (k:=1) d3 (DL.field (o:=4) (k:=1) d4 (DL.field (o:=5) (k:=1) d5 (DL.last hl))))))),q0.mono b0,q1.mono b1,q2.mono b2,q3.mono b3,q4.mono b4,q5.mono b5⟩
def QTPiece (y:TPiece) (N:Nat):Prop:=QT y N
theorem QTPiece.mono {y:TPiece} {n m:Nat} (h:QTPiece y n) (k:n+1≤m):QTPiece y m:=QT.mono h k
theorem rd_TPiece:RdQ enc Proofs.Tryz.prog W base 143 3 TD31 QTPiece:=by
 intro held n cs x hl h hb;obtain⟨y0,m0,d0,q0,b0⟩:=rd_of (K:=3) Proofs.Tryz.underlying143 h hb hl 0 _ rfl rfl rfl (k:=1) (by kernel_rfl) (by decide) (rd_int Proofs.Tryz.underlying3)
 obtain⟨y1,m1,d1,q1,b1⟩:=rd_of (K:=3) Proofs.Tryz.underlying143 h hb hl 1 _ rfl rfl rfl (k:=1) (by kernel_rfl) (by decide) (rd_int Proofs.Tryz.underlying3)
 obtain⟨y2,m2,d2,q2,b2⟩:=rd_of (K:=3) Proofs.Tryz.underlying143 h hb hl 2 _ rfl rfl rfl (k:=1) (by kernel_rfl) (by decide) (rd_int Proofs.Tryz.underlying3)
 exact⟨⟨y0,y1,y2⟩,(DL.field (o:=0) (k:=1) d0 (DL.field (o:=1) (k:=1) d1 (DL.field (o:=2) (k:=1) d2 (DL.last hl)))),trivial⟩
def QTConv (y:TConv) (N:Nat):Prop:=QS y.Obj N∧QS y.Sec N∧QS y.From N∧(QL QTPiece) y.Pieces N
theorem QTConv.mono {y:TConv} {n m:Nat} (h:QTConv y n) (k:n+1≤m):QTConv y m:=⟨QS.mono (h.1) k,QS.mono (h.2.1) k,QS.mono (h.2.2.1) k,QL.mono (h.2.2.2) k⟩
theorem rd_TConv:RdQ enc Proofs.Tryz.prog W base 140 5 TD33 QTConv:=by
 intro held n cs x hl h hb;obtain⟨y0,m0,d0,q0,b0⟩:=rd_of (K:=5) Proofs.Tryz.underlying140 h hb hl 0 _ rfl rfl rfl (k:=1) (by kernel_rfl) (by decide) (rd_str Proofs.Tryz.underlying9)
 obtain⟨y1,m1,d1,q1,b1⟩:=rd_of (K:=5) Proofs.Tryz.underlying140 h hb hl 1 _ rfl rfl rfl (k:=1) (by kernel_rfl) (by decide) (rd_str Proofs.Tryz.underlying9)
 obtain⟨y2,m2,d2,q2,b2⟩:=rd_of (K:=5) Proofs.Tryz.underlying140 h hb hl 2 _ rfl rfl rfl (k:=1) (by kernel_rfl) (by decide) (rd_str Proofs.Tryz.underlying9)
 obtain⟨y3,m3,d3,q3,b3⟩:=rd_of (K:=5) Proofs.Tryz.underlying140 h hb hl 3 _ rfl rfl rfl (k:=1) (by kernel_rfl) (by decide) (rd_slice (B:=24) Proofs.Tryz.underlying138 (by kernel_rfl) (by decide) (by decide) rd_TPiece)
 obtain⟨y4,m4,d4,q4,b4⟩:=rd_of (K:=5) Proofs.Tryz.underlying140 h hb hl 4 _ rfl rfl rfl (k:=1) (by kernel_rfl) (by decide) (rd_int Proofs.Tryz.underlying3)
 exact⟨⟨y0,y1,y2,y3,y4⟩,(DL.field (o:=0) (k:=1) d0 (DL.field (o:=1) (k:=1) d1 (DL.field (o:=2) (k:=1) d2 (DL.field (o:=3) (k:=1) d3 (DL.field (o:=4) (k:=1) d4 (DL.last hl)))))),q0.mono b0,q1.mono b1,q2.mono b2,q3.mono b3⟩
def QTImage (y:TImage) (N:Nat):Prop:=QS y.Name N∧QS y.Bytes N∧QS y.Tls N∧(QL QTPlaced) y.Nodes N∧(QL QTExport) y.Exports N∧(QL QTImport) y.Imports N∧(QL QT) y.Slots N∧(QL QT) y.Stubs N∧(QL QTDyn) y.Dyns N∧(QL QT) y.Inits N∧(QL QT) y.Lasts N∧(QL QS) y.Needs N∧(QL QTVersionDef) y.Versions N∧QTInfo y.Info N∧(QL QTConv) y.Changes N
theorem QTImage.mono {y:TImage} {n m:Nat} (h:QTImage y n) (k:n+1≤m):QTImage y m:=⟨QS.mono (h.1) k,QS.mono (h.2.1) k,QS.mono (h.2.2.1) k,QL.mono (h.2.2.2.1) k,QL.mono (h.2.2.2.2.1) k,QL.mono (h.2.2.2.2.2.1) k,QL.mono (h.2.2.2.2.2.2.1) k,QL.mono (h.2.2.2.2.2.2.2.1) k,QL.mono (h.2.2.2.2.2.2.2.2.1) k,QL.mono (h.2.2.2.2.2.2.2.2.2.1) k,QL.mono (h.2.2.2.2.2.2.2.2.2.2.1) k,QL.mono (h.2.2.2.2.2.2.2.2.2.2.2.1) k,QL.mono (h.2.2.2.2.2.2.2.2.2.2.2.2.1) k,QTInfo.mono (h.2.2.2.2.2.2.2.2.2.2.2.2.2.1) k,QL.mono (h.2.2.2.2.2.2.2.2.2.2.2.2.2.2) k⟩
theorem rd_TImage:RdQ enc Proofs.Tryz.prog W base 39 26 TD35 QTImage:=by
 intro held n cs x hl h hb;obtain⟨y0,m0,d0,q0,b0⟩:=rd_of (K:=26) Proofs.Tryz.underlying39 h hb hl 0 _ rfl rfl rfl (k:=1) (by kernel_rfl) (by decide) (rd_str Proofs.Tryz.underlying9)
 obtain⟨y1,m1,d1,q1,b1⟩:=rd_of (K:=26) Proofs.Tryz.underlying39 h hb hl 1 _ rfl rfl rfl (k:=1) (by kernel_rfl) (by decide) (rd_bool Proofs.Tryz.underlying4)
 obtain⟨y2,m2,d2,q2,b2⟩:=rd_of (K:=26) Proofs.Tryz.underlying39 h hb hl 2 _ rfl rfl rfl (k:=1) (by kernel_rfl) (by decide) (rd_int Proofs.Tryz.underlying3)
 obtain⟨y3,m3,d3,q3,b3⟩:=rd_of (K:=26) Proofs.Tryz.underlying39 h hb hl 3 _ rfl rfl rfl (k:=1) (by kernel_rfl) (by decide) (rd_int Proofs.Tryz.underlying3)
 obtain⟨y4,m4,d4,q4,b4⟩:=rd_of (K:=26) Proofs.Tryz.underlying39 h hb hl 4 _ rfl rfl rfl (k:=1) (by kernel_rfl) (by decide) (rd_int Proofs.Tryz.underlying3)
 obtain⟨y5,m5,d5,q5,b5⟩:=rd_of (K:=26) Proofs.Tryz.underlying39 h hb hl 5 _ rfl rfl rfl (k:=1) (by kernel_rfl) (by decide) (rd_str Proofs.Tryz.underlying9)
 obtain⟨y6,m6,d6,q6,b6⟩:=rd_of (K:=26) Proofs.Tryz.underlying39 h hb hl 6 _ rfl rfl rfl (k:=1) (by kernel_rfl) (by decide) (rd_str Proofs.Tryz.underlying9)
 obtain⟨y7,m7,d7,q7,b7⟩:=rd_of (K:=26) Proofs.Tryz.underlying39 h hb hl 7 _ rfl rfl rfl (k:=1) (by kernel_rfl) (by decide) (rd_int Proofs.Tryz.underlying3)
 obtain⟨y8,m8,d8,q8,b8⟩:=rd_of (K:=26) Proofs.Tryz.underlying39 h hb hl 8 _ rfl rfl rfl (k:=1) (by kernel_rfl) (by decide) (rd_slice (B:=88) Proofs.Tryz.underlying22 (by kernel_rfl) (by decide) (by decide) rd_TPlaced)
 obtain⟨y9,m9,d9,q9,b9⟩:=rd_of (K:=26) Proofs.Tryz.underlying39 h hb hl 9 _ rfl rfl rfl (k:=1) (by kernel_rfl) (by decide) (rd_slice (B:=64) Proofs.Tryz.underlying23 (by kernel_rfl) (by decide) (by decide) rd_TExport)
 obtain⟨y10,m10,d10,q10,b10⟩:=rd_of (K:=26) Proofs.Tryz.underlying39 h hb hl 10 _ rfl rfl rfl (k:=1) (by kernel_rfl) (by decide) (rd_slice (B:=48) Proofs.Tryz.underlying24 (by kernel_rfl) (by decide) (by decide) rd_TImport)
 obtain⟨y11,m11,d11,q11,b11⟩:=rd_of (K:=26) Proofs.Tryz.underlying39 h hb hl 11 _ rfl rfl rfl (k:=1) (by kernel_rfl) (by decide) (rd_slice (B:=8) Proofs.Tryz.underlying25 (by kernel_rfl) (by decide) (by decide) (rd_int Proofs.Tryz.underlying3))
 obtain⟨y12,m12,d12,q12,b12⟩:=rd_of (K:=26) Proofs.Tryz.underlying39 h hb hl 12 _ rfl rfl rfl (k:=1) (by kernel_rfl) (by decide) (rd_slice (B:=8) Proofs.Tryz.underlying25 (by kernel_rfl) (by decide) (by decide) (rd_int Proofs.Tryz.underlying3))
 obtain⟨y13,m13,d13,q13,b13⟩:=rd_of (K:=26) Proofs.Tryz.underlying39 h hb hl 13 _ rfl rfl rfl (k:=1) (by kernel_rfl) (by decide) (rd_slice (B:=32) Proofs.Tryz.underlying26 (by kernel_rfl) (by decide) (by decide) rd_TDyn)
 obtain⟨y14,m14,d14,q14,b14⟩:=rd_of (K:=26) Proofs.Tryz.underlying39 h hb hl 14 _ rfl rfl rfl (k:=1) (by kernel_rfl) (by decide) (rd_slice (B:=8) Proofs.Tryz.underlying25 (by kernel_rfl) (by decide) (by decide) (rd_int Proofs.Tryz.underlying3))
 obtain⟨y15,m15,d15,q15,b15⟩:=rd_of (K:=26) Proofs.Tryz.underlying39 h hb hl 15 _ rfl rfl rfl (k:=1) (by kernel_rfl) (by decide) (rd_slice (B:=8) Proofs.Tryz.underlying25 (by kernel_rfl) (by decide) (by decide) (rd_int Proofs.Tryz.underlying3))
 obtain⟨y16,m16,d16,q16,b16⟩:=rd_of (K:=26) Proofs.Tryz.underlying39 h hb hl 16 _ rfl rfl rfl (k:=1) (by kernel_rfl) (by decide) (rd_int Proofs.Tryz.underlying3)
 obtain⟨y17,m17,d17,q17,b17⟩:=rd_of (K:=26) Proofs.Tryz.underlying39 h hb hl 17 _ rfl rfl rfl (k:=1) (by kernel_rfl) (by decide) (rd_slice (B:=16) Proofs.Tryz.underlying27 (by kernel_rfl) (by decide) (by decide) (rd_str Proofs.Tryz.underlying9))
 obtain⟨y18,m18,d18,q18,b18⟩:=rd_of (K:=26) Proofs.Tryz.underlying39 h hb hl 18 _ rfl rfl rfl (k:=1) (by kernel_rfl) (by decide) (rd_slice (B:=40) Proofs.Tryz.underlying28 (by kernel_rfl) (by decide) (by decide) rd_TVersionDef)
 obtain⟨y19,m19,d19,q19,b19⟩:=rd_of (K:=26) Proofs.Tryz.underlying39 h hb hl 19 _ rfl rfl rfl (k:=6) (by kernel_rfl) (by decide) rd_TInfo
 obtain⟨y20,m20,d20,q20,b20⟩:=rd_of (K:=26) Proofs.Tryz.underlying39 h hb hl 20 _ rfl rfl rfl (k:=1) (by kernel_rfl) (by decide) (rd_slice (B:=80) Proofs.Tryz.underlying37 (by kernel_rfl) (by decide) (by decide) rd_TConv)
 exact⟨⟨y0,y1,y2,y3,y4,y5,y6,y7,y8,y9,y10,y11,y12,y13,y14,y15,y16,y17,y18,y19,y20⟩,(DL.field (o:=0) (k:=1) d0 (DL.field (o:=1) (k:=1) d1 (DL.field (o:=2) (k:=1) d2 (DL.field (o:=3) (k:=1) d3 (DL.field (o:=4) (k:=1) d4 (DL.field (o:=5) (k:=1) d5 (DL.field (o:=6) (k:=1) d6 (DL.field (o:=7) (k:=1) d7 (DL.field (o:=8) (k:=1) d8 (DL.field (o:=9) (k:=1) d9 (DL.field (o:=10) (k:=1) d10 (DL.field (o:=11) (k:=1) d11 (DL.field (o:=12) (k:=1) d12 (DL.field (o:=13) (k:=1) d13 (DL.field (o:=14) (k:=1) d14 (DL.field (o:=15) (k:=1) d15 (DL.field (o:=16) (k:=1) d16 (DL.field (o:=17) (k:=1) d17 (DL.field (o:=18) (k:=1) d18 (DL.field (o:=19) (k:=6) d19 (DL.field (o:=25) (k:=1) d20 (DL.last hl)))))))))))))))))))))),q0.mono b0,q5.mono b5,q6.mono b6,q8.mono b8,q9.mono b9,q10.mono b10,q11.mono b11,q12.mono b12,q13.mono b13,q14.mono b14,q15.mono b15,q17.mono b17,q18.mono b18,q19.mono b19,q20.mono b20⟩
end
end Go.SX
namespace Go.SX
open Go.XK Go.RowKit
section
variable {E:En}
theorem calls_hcS {DB:List (Fact E)} {IL:List (Inl E)} {WL:List (Wk E)} {n:Nat} {args:List SV} {H:List (Nat×HB)} {R:SV→List (Nat×HB)→Nat→Prop} {f:FuncId} {fn:Func} {c:Code} {N:Nat} (hf:E.P.funcs[f]?=some fn) (hb:fn.body=some c) (hN:fn.ntmps=N) (hl:Nat.ble (len args) N=true) (hfn:FnOK E.P f)
   (h:know args→deepS (entS args H n) fun σ=>vc E (mkDb DB WL IL) N c σ (retQ E fn.results.toList fun s σ=>retH n R (subz σ s).2 (subz σ s).1)):HC E f n args H R:=by
 refine⟨hfn,fun m ids vs hG hm hn hH hv=>?_⟩
 have h0:=h (know_ok hv);rw [deepS_eq]at h0;refine(calls_vc hm hG hn hH hv hf hb hN hl h0).mono fun e w' ⟨v,σ,S,ids',a,s',he,hS,hd,fs,nl,s2,H2,r,hR,hle⟩=>?_
 rw [deepS_eq]at hle;obtain⟨hle,hmt⟩:=hle;obtain⟨ids0,hS,hd,_⟩:=subz_ok hS hd;obtain⟨ids1,S1,k1,k2,k3⟩:=nilz_ok nl hS;have hd:=k3 _ _ hd;obtain⟨S',h1,h2⟩:=k1.frz fs;obtain⟨ids2,h3,hrr⟩:=meets_ok h2 rfl rfl hmt;have hlen:ids2.length=n+len r:=h3.len;have hmod:=h3.mod;refine⟨v,S',ids2,s2,H2,he,by rw [hlen];exact hR,hmod,⟨fun b hb=>⟨h3.S0 b hb,hmod.block b (hm b hb) fun⟨i,hb0,hi,hf0⟩=>hH.fpS i hb0 b hi hf0 hb⟩,hmod.size⟩,h3.S,fun i hi=>h3.pre i hi,by omega,h3.heap,fun b ⟨i,hb0,hi,hf0⟩=>h3.low i hb0 b hi hf0,?_⟩
 exact Den.unren hrr s2 (leS_ok _ _ hle (vw_den h2 (Den.le h1 _ hd)))
end
end Go.SX
