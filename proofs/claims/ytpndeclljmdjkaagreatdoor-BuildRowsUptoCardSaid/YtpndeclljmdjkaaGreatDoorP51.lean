/- A part of the proof (texts BuildRowsJ). -/
import Derived.Test.YtpndeclljmdjkaaGreatDoorCards
import Derived.Test.YtpndeclljmdjkaaGreatDoorP48
import Derived.Test.YtpndeclljmdjkaaGreatDoorTie
set_option linter.all false
set_option maxRecDepth 100000
namespace Go.Proofs.YtpndeclljmdjkaaGreatDoor
open Go.RowKit Go.XK Go.ChangeShapes Go.WideShapes Go.ChangeAt
theorem FT:ownKnob Tryz.prog.godebug=none:=by kernel_rfl
theorem Cg:laidOutB Tryz.prog=true:=by kernel_rfl
theorem FU (os:Os) (args:Array Value):laidMetH Tryz.prog [("linchpin/digest.turns", Rows.laid_linchpin_digest_turns), ("linchpin/digest.constants", Rows.laid_linchpin_digest_constants), ("linchpin/isa.forms", Rows.laid_linchpin_isa_forms), ("linchpin/reloc.rows", Rows.laid_linchpin_reloc_rows)] ((World.doorLaid Tryz.prog 78 os).forCall (fun _ _=>0) ⟨#[],args,[]⟩).memory :=
 laidMetH_of_parts3 (fuel:=8) (laidMet_of_run' 8 (by kernel_rfl) (by kernel_rfl)) (by kernel_rfl) (by kernel_rfl)
theorem rows_j1:laidOutB Tryz.pinned.checked.prog=true:=by kernel_rfl
theorem rows_j2:mapsRowed Tryz.pinned.checked.prog=true:=by kernel_rfl
theorem rows_j3:(Rows.buildRowsUptoRow.unfollowed==Tryz.pinned.checked.prog.unfollowed 3)=true:=by kernel_rfl
theorem rows_j4:(Rows.buildRowsUptoRow.recurses==Tryz.pinned.checked.prog.recurses 3)=true:=by kernel_rfl
theorem rows_j5:(Rows.buildRowsUptoRow.named==Tryz.pinned.checked.prog.varsNamed 3)=true:=by kernel_rfl
theorem rows_j6:(Rows.buildRowsUptoRow.inPlace==Tryz.pinned.checked.prog.inPlace 3)=true:=by kernel_rfl
theorem rows_j7:Tryz.pinned.checked.prog.stopsHeard=true:=by kernel_rfl
theorem rows_j8:Tryz.pinned.checked.prog.mayEnter=true:=by kernel_rfl
theorem rows_j9:(Rows.buildRowsUptoRow.plainKeys==Tryz.pinned.checked.prog.plainKeys)=true:=by kernel_rfl
theorem F3:(Tryz.pinned.checked.prog.stops==[])=true:=by kernel_rfl
theorem FZ:(Tryz.pinned.checked.prog.stopKnobs==[])=true:=by kernel_rfl
theorem FY:(Rows.buildRowsUptoRow.lifted==Tryz.pinned.checked.prog.liftsFinal)=true:=by kernel_rfl
theorem FX:(Tryz.pinned.checked.prog.make==some Rows.buildRowsUptoRow.make)=true:=by kernel_rfl
theorem FW:OpenClaim.wf (OpenSpec.ofChange (Rows.OpenSpec.upto Rows.buildRowsSpec).bare) Rows.buildRowsUptoRow=true:=by kernel_rfl
theorem FV:(Tryz.f3.params.all fun x=>Tryz.pinned.checked.prog.readableRec x)=true:=by kernel_rfl
theorem wD:joinedFacts Tryz.pinned.checked.prog 3 Tryz.f3 (Rows.OpenSpec.upto Rows.buildRowsSpec).bare Rows.buildRowsUptoRow=true:=by
 unfold joinedFacts
 repeat' first|with_reducible exact rows_j1|with_reducible exact rows_j2|with_reducible exact rows_j3|with_reducible exact rows_j4|with_reducible exact rows_j5|with_reducible exact rows_j6|with_reducible exact rows_j7|with_reducible exact rows_j8|with_reducible exact rows_j9|with_reducible exact F3|with_reducible exact FZ|with_reducible exact FY|with_reducible exact FX|with_reducible exact FW|with_reducible exact FV|with_reducible apply and_t|kernel_rfl
theorem zA (f:FuncId) (fn:Func) (hf:Tryz.pinned.checked.prog.funcNamed "linchpin/linchpinlaw21.BuildRows" = some f) (hfn:Tryz.pinned.checked.prog.funcs[f]?=some fn) :
   true=Tryz.pinned.checked.prog.looks []/\∀ (j:Nat) t,fn.params[j]?=some t->Tryz.pinned.checked.prog.wantsStandIn t=false:=by
 obtain rfl:f=3:=Option.some.inj ((show Tryz.prog.funcNamed "linchpin/linchpinlaw21.BuildRows" = some 3 by kernel_rfl).symm.trans hf) |>.symm
 obtain rfl:fn=Tryz.f3:=(Option.some.inj (Tryz.func3.symm.trans hfn)).symm;refine⟨by kernel_rfl,fun j t ht=>?_⟩
 rw [Tryz.params3]at ht;have hm:t∈[32,36]:=by simpa using Array.mem_of_getElem? ht
 have hall:([32,36].all fun u=>!Tryz.prog.wantsStandIn u)=true:=by kernel_rfl
 exact(show Tryz.prog.wantsStandIn t=false by simpa using List.all_eq_true.1 hall t hm)
theorem rows_g0:((List.range 50).all fun i=>!(Tryz.prog.funcs[i+0]?).any Func.goes)=true:=by kernel_rfl
theorem F4:((List.range 50).all fun i=>!(Tryz.prog.funcs[i+50]?).any Func.goes)=true:=by kernel_rfl
theorem Ct:((List.range 50).all fun i=>!(Tryz.prog.funcs[i+100]?).any Func.goes)=true:=by kernel_rfl
theorem Cr:((List.range 50).all fun i=>!(Tryz.prog.funcs[i+150]?).any Func.goes)=true:=by kernel_rfl
theorem Cq:((List.range 50).all fun i=>!(Tryz.prog.funcs[i+200]?).any Func.goes)=true:=by kernel_rfl
theorem Co:((List.range 50).all fun i=>!(Tryz.prog.funcs[i+250]?).any Func.goes)=true:=by kernel_rfl
theorem Cn:((List.range 50).all fun i=>!(Tryz.prog.funcs[i+300]?).any Func.goes)=true:=by kernel_rfl
theorem Cm:((List.range 50).all fun i=>!(Tryz.prog.funcs[i+350]?).any Func.goes)=true:=by kernel_rfl
theorem Ck:((List.range 50).all fun i=>!(Tryz.prog.funcs[i+400]?).any Func.goes)=true:=by kernel_rfl
theorem Cj:((List.range 50).all fun i=>!(Tryz.prog.funcs[i+450]?).any Func.goes)=true:=by kernel_rfl
theorem rows_gs:Tryz.prog.funcs.size<=500:=of_decide_eq_true (by kernel_rfl)
theorem Ch:false=Rows.buildRowsUptoRow.goesBy Tryz.pinned.checked.prog:=Ke rfl (goes_in rows_gs fun i hi=>by
 rcases Nat.lt_or_ge i 50 with h0|h0
 ·exact iD rows_g0 au au
 rcases Nat.lt_or_ge i 100 with h50|h50
 ·exact iD F4 au au
 rcases Nat.lt_or_ge i 150 with h100|h100
 ·exact iD Ct au au
 rcases Nat.lt_or_ge i 200 with h150|h150
 ·exact iD Cr au au
 rcases Nat.lt_or_ge i 250 with h200|h200
 ·exact iD Cq au au
 rcases Nat.lt_or_ge i 300 with h250|h250
 ·exact iD Co au au
 rcases Nat.lt_or_ge i 350 with h300|h300
 ·exact iD Cn au au
 rcases Nat.lt_or_ge i 400 with h350|h350
 ·exact iD Cm au au
 rcases Nat.lt_or_ge i 450 with h400|h400
 ·exact iD Ck au au
 exact iD Cj au au)
end Go.Proofs.YtpndeclljmdjkaaGreatDoor
