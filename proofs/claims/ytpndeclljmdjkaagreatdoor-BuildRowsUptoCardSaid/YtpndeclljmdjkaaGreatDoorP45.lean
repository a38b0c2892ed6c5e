/- A part of the proof (texts SrtK). -/
import Derived.Test.YtpndeclljmdjkaaGreatDoorP10
import Derived.Test.YtpndeclljmdjkaaGreatDoorP11
set_option linter.all false
set_option maxRecDepth 100000
namespace Go.SX
open Go.XK Go.RowKit
set_option maxHeartbeats 40000000
noncomputable def F_AE:Fact E0:=bM 64 Proofs.Tryz.f64 rfl rfl rfl [.g nU] (fun _ gV _ _ _ _=>.ok (.i gV)) [] [] kI
noncomputable def F_AM:Fact E0:=bM 169 Proofs.Tryz.f169 rfl rfl rfl [.g nU,.g nU,.p [.k 64 [] []]] (fun _ gV _ _ _ _ _ Ni _ _ _ _=>.ok (.i (uf gV Ni))) [F_AE,Jq] [] kI
namespace IB
abbrev X:=ah 13
abbrev Z:X:=rE 13
abbrev ky:X->Int:=fun x=>(show dW from x).From
@[reducible] noncomputable def FS:=F_AM
abbrev cb:SV:=.nL 64 [] []
abbrev cl:SV:=.nL 169 [] [.fp [cb] 0]
@[reducible] noncomputable def fnI:Func:=Proofs.Tryz.f331
@[reducible] noncomputable def fnW:Func:=Proofs.Tryz.f418
@[reducible] noncomputable def fnR:Func:=Proofs.Tryz.f390
@[reducible] noncomputable def fnM:Func:=Proofs.Tryz.f332
@[reducible] noncomputable def fnT:Func:=Proofs.Tryz.f244
@[reducible] noncomputable def fnS:Func:=Proofs.Tryz.f168
@[reducible] noncomputable def fnB:Func:=Proofs.Tryz.f63
theorem xg:RB 13 331 129 cl ky:=FJ
theorem zV:Rz 13 418 129 cl:=FC
theorem wZ:Ad 13 390 129 cl:=FI
theorem wY:Ad 13 332 129 cl:=uy fun N=>FB
theorem zW:RA 13 244 129 cl ky:=FD
theorem zX:BA 13 168 129 cl ky:=FE
theorem nX:BA 13 63 129 cb ky:=FH
end IB
abbrev Om:=IB.ky
noncomputable def F_AF:Fact E0:=bM 66 Proofs.Tryz.f66 rfl rfl rfl [.g wH] (fun _ gV _ _ _ _=>.ok (.i gV)) [] [] kI
noncomputable def F_AQ:Fact E0:=bM 171 Proofs.Tryz.f171 rfl rfl rfl [.g wH,.g wH,.p [.k 66 [] []]] (fun _ gV _ _ _ _ _ Ni _ _ _ _=>.ok (.i (uf gV Ni))) [F_AF,Jq] [] kI
namespace SoVar
abbrev X:=ah 46
abbrev Z:X:=rE 46
abbrev ky:X->Int:=fun x=>(show kR from x).From
@[reducible] noncomputable def FS:=F_AQ
abbrev cb:SV:=.nL 66 [] []
abbrev cl:SV:=.nL 171 [] [.fp [cb] 0]
@[reducible] noncomputable def fnI:Func:=Proofs.Tryz.f333
@[reducible] noncomputable def fnW:Func:=Proofs.Tryz.f419
@[reducible] noncomputable def fnR:Func:=Proofs.Tryz.f391
@[reducible] noncomputable def fnM:Func:=Proofs.Tryz.f334
@[reducible] noncomputable def fnT:Func:=Proofs.Tryz.f245
@[reducible] noncomputable def fnS:Func:=Proofs.Tryz.f170
@[reducible] noncomputable def fnB:Func:=Proofs.Tryz.f65
theorem xg:RB 46 333 88 cl ky:=FJ
theorem zV:Rz 46 419 88 cl:=FC
theorem wZ:Ad 46 391 88 cl:=FI
theorem wY:Ad 46 334 88 cl:=uy fun N=>FB
theorem zW:RA 46 245 88 cl ky:=FD
theorem zX:BA 46 170 88 cl ky:=FE
theorem nX:BA 46 65 88 cb ky:=FH
end SoVar
abbrev kyVar:=SoVar.ky
end Go.SX
