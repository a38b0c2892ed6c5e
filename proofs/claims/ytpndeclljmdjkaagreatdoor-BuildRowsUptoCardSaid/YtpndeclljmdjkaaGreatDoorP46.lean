/- A part of the proof (texts SrtL). -/
import Derived.Test.YtpndeclljmdjkaaGreatDoorP10
import Derived.Test.YtpndeclljmdjkaaGreatDoorP11
set_option linter.all false
set_option maxRecDepth 100000
namespace Go.SX
open Go.XK Go.RowKit
set_option maxHeartbeats 40000000
noncomputable def F_AG:Fact E0:=bM 68 Proofs.Tryz.f68 rfl rfl rfl [.g fC] (fun _ gV _ _=>.ok (.i gV)) [] [] kI
noncomputable def F_AK:Fact E0:=bM 173 Proofs.Tryz.f173 rfl rfl rfl [.g fC,.g fC,.p [.k 68 [] []]] (fun _ gV _ _ _ Ni _ _=>.ok (.i (uf gV Ni))) [F_AG,Jq] [] kI
namespace M4
abbrev X:=ah 17
abbrev Z:X:=rE 17
abbrev ky:X->Int:=fun x=>(show iH from x).From
@[reducible] noncomputable def FS:=F_AK
abbrev cb:SV:=.nL 68 [] []
abbrev cl:SV:=.nL 173 [] [.fp [cb] 0]
@[reducible] noncomputable def fnI:Func:=Proofs.Tryz.f335
@[reducible] noncomputable def fnW:Func:=Proofs.Tryz.f420
@[reducible] noncomputable def fnR:Func:=Proofs.Tryz.f392
@[reducible] noncomputable def fnM:Func:=Proofs.Tryz.f336
@[reducible] noncomputable def fnT:Func:=Proofs.Tryz.f246
@[reducible] noncomputable def fnS:Func:=Proofs.Tryz.f172
@[reducible] noncomputable def fnB:Func:=Proofs.Tryz.f67
theorem xg:RB 17 335 131 cl ky:=FJ
theorem zV:Rz 17 420 131 cl:=FC
theorem wZ:Ad 17 392 131 cl:=FI
theorem wY:Ad 17 336 131 cl:=uy fun N=>FB
theorem zW:RA 17 246 131 cl ky:=FD
theorem zX:BA 17 172 131 cl ky:=FE
theorem nX:BA 17 67 131 cb ky:=FH
end M4
abbrev Tv:=M4.ky
noncomputable def F_AH:Fact E0:=bM 70 Proofs.Tryz.f70 rfl rfl rfl [.g fC] (fun yK _ _ _=>.ok (.i yK)) [] [] kI
noncomputable def F_AL:Fact E0:=bM 175 Proofs.Tryz.f175 rfl rfl rfl [.g fC,.g fC,.p [.k 70 [] []]] (fun yK _ _ _ yAt _ _ _=>.ok (.i (uf yK yAt))) [F_AH,Jq] [] kI
namespace SoDyn
abbrev X:=ah 42
abbrev Z:X:=rE 42
abbrev ky:X->Int:=fun x=>(show lM from x).At
@[reducible] noncomputable def FS:=F_AL
abbrev cb:SV:=.nL 70 [] []
abbrev cl:SV:=.nL 175 [] [.fp [cb] 0]
@[reducible] noncomputable def fnI:Func:=Proofs.Tryz.f337
@[reducible] noncomputable def fnW:Func:=Proofs.Tryz.f421
@[reducible] noncomputable def fnR:Func:=Proofs.Tryz.f393
@[reducible] noncomputable def fnM:Func:=Proofs.Tryz.f338
@[reducible] noncomputable def fnT:Func:=Proofs.Tryz.f247
@[reducible] noncomputable def fnS:Func:=Proofs.Tryz.f174
@[reducible] noncomputable def fnB:Func:=Proofs.Tryz.f69
theorem xg:RB 42 337 73 cl ky:=FJ
theorem zV:Rz 42 421 73 cl:=FC
theorem wZ:Ad 42 393 73 cl:=FI
theorem wY:Ad 42 338 73 cl:=uy fun N=>FB
theorem zW:RA 42 247 73 cl ky:=FD
theorem zX:BA 42 174 73 cl ky:=FE
theorem nX:BA 42 69 73 cb ky:=FH
end SoDyn
abbrev kyDyn:=SoDyn.ky
end Go.SX
