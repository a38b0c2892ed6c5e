/- For all units and layouts: the law returns true and the arguments read afterwards as before, where the arguments hold together at most 1048576 values and letters; the package variables hold what the text of the program lays, which the card ties. No other condition. -/
import Derived.Test.YtpndeclljmdjkaaGreatDoorP50
import Derived.Test.YtpndeclljmdjkaaGreatDoorP51
set_option linter.all false
set_option maxRecDepth 100000
namespace Go.Proofs.YtpndeclljmdjkaaGreatDoor
open Go.RowKit Go.XK Go.ChangeShapes Go.WideShapes Go.ChangeAt
theorem F5 (u:Go.SX.fZ) (l:Go.SX.bX) (hl:Go.SX.MX u l) (W:World) (hG:Go.SX.lU Go.SX.E0.G (Go.SX.Pv W)) (vs:List Value) (hv:Go.SX.aC (Go.SX.Pv W) [] [.agg [.str u.Name,.b u.Lib,.aW none 19 u.Nodes,.aW none 21 u.Imports,.aW none 23 u.lQ,.aW none 6 u.lZ,.aW none 6 u.oQ,.aW none 1 u.Needs,.i u.Entry.Kind,.i u.Entry.N,.i u.Entry.Off,.i u.Entry.Size,.aW none 27 u.fJ,.aW none 31 u.Changes],.agg [.aW none 0 l.Nodes,.aW none 0 l.Slots,.aW none 35 l.kY,.i l.Code,.i l.Data,.i l.Zero,.i l.Tls]] vs):Calls Tryz.prog 3 vs.toArray W fun e w'=>e=.returned (.bool true)/\Ext W w':=by
 refine(Go.SX.F_BZ.ok _ (Go.SX.Pv W) [] vs hG (fun b h=>h) hv hl).mono fun e w' ⟨v,S,he,hx,_,_,hd⟩=>⟨?_,hx⟩
 rw [Go.SX.Den]at hd;rw [he,hd]
theorem wC (os:Os) (started:os.Started) (H:Type) (enc:TypeId×Value->H) (F:Stop.Interp):ReturnsInHanded {} Tryz.checked os 3 .any ((Rows.OpenSpec.upto Rows.buildRowsSpec).preRow enc Tryz.prog Tryz.f3 Rows.buildRowsUptoRow.domain false Rows.buildRowsUptoRow.laid) (((Rows.OpenSpec.upto Rows.buildRowsSpec).at F).post enc Tryz.prog Tryz.f3 false true false false):=by
 refine DW (C:=Tryz.checked) (laid:=[("linchpin/digest.turns",Rows.laid_linchpin_digest_turns),("linchpin/digest.constants",Rows.laid_linchpin_digest_constants),("linchpin/isa.forms",Rows.laid_linchpin_isa_forms),("linchpin/reloc.rows",Rows.laid_linchpin_reloc_rows)]) FT started (by kernel_rfl) Tryz.func3
   (witness_row_atRef (enc:=enc) (C:=Tryz.checked) false (World.doorLaid Tryz.prog 78 os) #[.agg #[.string ByteArray.empty,.bool false,.slice none 0 0,.slice none 0 0,.slice none 0 0,.slice none 0 0,.slice none 0 0,.slice none 0 0,.int .i64 0,.int .i64 0,.int .i64 0,.int .i64 0,.slice none 0 0,.slice none 0 0],.agg #[.slice none 0 0,.slice none 0 0,.slice none 0 0,.int .i64 0,.int .i64 0,.int .i64 0,.int .i64 0]] rfl (by kernel_rfl) (by kernel_rfl) (by kernel_rfl)
     (OpenSpec.preRow_of_cond 8 (x:=([.agg [.lit (.string []),.lit (.bool false),.nil,.nil,.nil,.nil,.nil,.nil,.agg [.lit (.int .i64 0),.lit (.int .i64 0),.lit (.int .i64 0),.lit (.int .i64 0)],.nil,.nil],.agg [.nil,.nil,.nil,.lit (.int .i64 0),.lit (.int .i64 0),.lit (.int .i64 0),.lit (.int .i64 0)]],[],[])) (by kernel_rfl) (by kernel_rfl) (fun k hk=>by cases hk;kernel_rfl) (by kernel_rfl) (FU os _)))
   Cg (by kernel_rfl) rfl (tb:=4) rfl Tryz.underlying4 (fun ds h=>?_) ?_
 ·have h:ds.length=2:=h
  match ds,h with
  |[d0,d1],_=>rfl
 intro W base args ds p hval0 hA0 hb hL;have hG:=Go.SX.glob_of hL;have hval:∀ (j:Nat) t v,Tryz.f3.params[j]?=some t->args[j]?=some v->Value.okWide Tryz.prog W .any base t v:=hval0;have hA:DataW.TrodAll enc Tryz.prog W 0 (fun _=>true) true Tryz.f3.params.toList args.toList ds p:=hA0
 rw [Tryz.params3]at hA hval;obtain⟨v0,vs0,d0,ds0,p0,q0,hargs,rfl,rfl,h0,r0⟩:=trodAll_cons hA;obtain⟨v1,vs1,d1,ds1,p1,q1,rfl,rfl,rfl,h1,r1⟩:=trodAll_cons r0;obtain⟨rfl,rfl,rfl⟩:=trodAll_nil r1;obtain rfl:args = #[v0,v1]:=by cases args;simp_all
 have hb0:Go.SX.bulk d0<=1048576:=Nat.le_trans (Go.SX.qz (by simp)) hb
 have hb1:Go.SX.bulk d1<=1048576:=Nat.le_trans (Go.SX.qz (by simp)) hb
 obtain⟨c0,rfl,s0⟩:=okWide_struct Tryz.underlying32 (hval 0 32 v0 rfl rfl);obtain⟨u0,hf0⟩:=h0;rw [show Tryz.prog.cellsOf 32=14 by kernel_rfl]at s0
 obtain⟨y0,hD0,hQ0⟩:=Go.SX.NH (base:=0) true u0 c0.toList _ (by simpa using s0) hf0 hb0
 obtain⟨c1,rfl,s1⟩:=okWide_struct Tryz.underlying36 (hval 1 36 v1 rfl rfl);obtain⟨u1,hf1⟩:=h1;rw [show Tryz.prog.cellsOf 36=7 by kernel_rfl]at s1
 obtain⟨y1,hD1,hQ1⟩:=Go.SX.Gf (base:=0) true u1 c1.toList _ (by simpa using s1) hf1 hb1
 refine(F5 y0 y1 (Go.SX.uok_of hQ0 hQ1 hb0 hb1) W hG [.agg c0.toList.toArray,.agg c1.toList.toArray] ?_).mono fun e w' ⟨he,hx⟩=>⟨he,hx⟩
 rw [Go.SX.aC];refine⟨_,_,rfl,?_,?_⟩
 ·rw [Go.SX.Den];exact⟨c0.toList,rfl,(Go.SX.nI 33 y0 rfl).1 hD0⟩
 rw [Go.SX.aC];refine⟨_,_,rfl,?_,?_⟩
 ·rw [Go.SX.Den];exact⟨c1.toList,rfl,(Go.SX.nI 37 y1 rfl).1 hD1⟩
 rw [Go.SX.aC]
theorem Ce:Rows.BuildRowsUptoSaid:=OpenClaim.holds_of_cond 3 Tryz.f3 rfl rfl rfl rfl rfl rfl rfl ⟨rfl,rfl,rfl,rfl,rfl⟩ rfl rfl rfl rfl rfl (by kernel_rfl) Tryz.func3 wD
   (of_decide_eq_true (by kernel_rfl)) (by unfold Func.isWrapper;first|(rw [if_pos (by decide +kernel)];kernel_rfl)|(rw [if_neg (by decide +kernel)];exact⟨rfl,rfl⟩))
   (fun os started H enc _ F=>by rw [OpenClaim.pre_eq_preRow];exact wC os started H enc F)
theorem rows_holds:Rows.BuildRowsUptoCardSaid:=Claim7.holds_tied_plain_at .later [] _ _ _ _ Ce (fun _ h=>by cases h) (by kernel_rfl) (fun _ h=>by cases h) buildRowsUpto_row_tie rfl ⟨rfl,rfl⟩ (by kernel_rfl) rfl zA Ch
end Go.Proofs.YtpndeclljmdjkaaGreatDoor
