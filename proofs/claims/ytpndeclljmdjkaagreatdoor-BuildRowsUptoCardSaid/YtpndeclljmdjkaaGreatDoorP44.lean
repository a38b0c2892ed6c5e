/- A part of the proof (texts SrtJ). -/
import Derived.Test.YtpndeclljmdjkaaGreatDoorP10
import Derived.Test.YtpndeclljmdjkaaGreatDoorP11
set_option linter.all false
set_option maxRecDepth 100000
namespace Go.SX
open Go.XK Go.RowKit
set_option maxHeartbeats 40000000
noncomputable def F_AB:Fact E0:=bM 58 Proofs.Tryz.f58 rfl rfl rfl [.g uM] (fun _ _ yK _=>.ok (.i yK)) [] [] kI
noncomputable def F_AO:Fact E0:=bM 162 Proofs.Tryz.f162 rfl rfl rfl [.g uM,.g uM,.p [.k 58 [] []]] (fun _ _ yK _ _ _ yAt _=>.ok (.i (uf yK yAt))) [F_AB,Jq] [] kI
namespace Rx
abbrev X:=ah 9
abbrev Z:X:=rE 9
abbrev ky:X->Int:=fun x=>(show eU from x).At
@[reducible] noncomputable def FS:=F_AO
abbrev cb:SV:=.nL 58 [] []
abbrev cl:SV:=.nL 162 [] [.fp [cb] 0]
@[reducible] noncomputable def fnI:Func:=Proofs.Tryz.f325
@[reducible] noncomputable def fnW:Func:=Proofs.Tryz.f415
@[reducible] noncomputable def fnR:Func:=Proofs.Tryz.f387
@[reducible] noncomputable def fnM:Func:=Proofs.Tryz.f326
@[reducible] noncomputable def fnT:Func:=Proofs.Tryz.f240
@[reducible] noncomputable def fnS:Func:=Proofs.Tryz.f161
@[reducible] noncomputable def fnB:Func:=Proofs.Tryz.f57
theorem xg:RB 9 325 61 cl ky:=FJ
theorem zV:Rz 9 415 61 cl:=FC
theorem wZ:Ad 9 387 61 cl:=FI
theorem wY:Ad 9 326 61 cl:=uy fun N=>FB
theorem zW:RA 9 240 61 cl ky:=FD
theorem zX:BA 9 161 61 cl ky:=FE
theorem nX:BA 9 57 61 cb ky:=FH
end Rx
abbrev Zx:=Rx.ky
noncomputable def F_AC:Fact E0:=bM 60 Proofs.Tryz.f60 rfl rfl rfl [.g pY] (fun _ yK _ _=>.ok (.i yK)) [] [] kI
noncomputable def F_AN:Fact E0:=bM 165 Proofs.Tryz.f165 rfl rfl rfl [.g pY,.g pY,.p [.k 60 [] []]] (fun _ yK _ _ _ yAt _ _=>.ok (.i (uf yK yAt))) [F_AC,Jq] [] kI
namespace Ry
abbrev X:=ah 11
abbrev Z:X:=rE 11
abbrev ky:X->Int:=fun x=>(show fQ from x).At
@[reducible] noncomputable def FS:=F_AN
abbrev cb:SV:=.nL 60 [] []
abbrev cl:SV:=.nL 165 [] [.fp [cb] 0]
@[reducible] noncomputable def fnI:Func:=Proofs.Tryz.f327
@[reducible] noncomputable def fnW:Func:=Proofs.Tryz.f416
@[reducible] noncomputable def fnR:Func:=Proofs.Tryz.f388
@[reducible] noncomputable def fnM:Func:=Proofs.Tryz.f328
@[reducible] noncomputable def fnT:Func:=Proofs.Tryz.f242
@[reducible] noncomputable def fnS:Func:=Proofs.Tryz.f164
@[reducible] noncomputable def fnB:Func:=Proofs.Tryz.f59
theorem xg:RB 11 327 63 cl ky:=FJ
theorem zV:Rz 11 416 63 cl:=FC
theorem wZ:Ad 11 388 63 cl:=FI
theorem wY:Ad 11 328 63 cl:=uy fun N=>FB
theorem zW:RA 11 242 63 cl ky:=FD
theorem zX:BA 11 164 63 cl ky:=FE
theorem nX:BA 11 59 63 cb ky:=FH
end Ry
abbrev Zy:=Ry.ky
noncomputable def F_AD:Fact E0:=bM 62 Proofs.Tryz.f62 rfl rfl rfl [.g [.i,.i]] (fun yK _=>.ok (.i yK)) [] [] kI
noncomputable def F_AP:Fact E0:=bM 167 Proofs.Tryz.f167 rfl rfl rfl [.g [.i,.i],.g [.i,.i],.p [.k 62 [] []]] (fun yK _ yAt _=>.ok (.i (uf yK yAt))) [F_AD,Jq] [] kI
namespace Rw
abbrev X:=ah 44
abbrev Z:X:=rE 44
abbrev ky:X->Int:=fun x=>(show dQ from x).At
@[reducible] noncomputable def FS:=F_AP
abbrev cb:SV:=.nL 62 [] []
abbrev cl:SV:=.nL 167 [] [.fp [cb] 0]
@[reducible] noncomputable def fnI:Func:=Proofs.Tryz.f329
@[reducible] noncomputable def fnW:Func:=Proofs.Tryz.f417
@[reducible] noncomputable def fnR:Func:=Proofs.Tryz.f389
@[reducible] noncomputable def fnM:Func:=Proofs.Tryz.f330
@[reducible] noncomputable def fnT:Func:=Proofs.Tryz.f243
@[reducible] noncomputable def fnS:Func:=Proofs.Tryz.f166
@[reducible] noncomputable def fnB:Func:=Proofs.Tryz.f61
theorem xg:RB 44 329 133 cl ky:=FJ
theorem zV:Rz 44 417 133 cl:=FC
theorem wZ:Ad 44 389 133 cl:=FI
theorem wY:Ad 44 330 133 cl:=uy fun N=>FB
theorem zW:RA 44 243 133 cl ky:=FD
theorem zX:BA 44 166 133 cl ky:=FE
theorem nX:BA 44 61 133 cb ky:=FH
end Rw
abbrev Zw:=Rw.ky
end Go.SX
