/- For all images and names: the law returns true and the arguments read afterwards as before, where the arguments hold together at most 1048576 values and letters. No other condition. -/
import Derived.Test.YtobpljbkdffkbaaGreatF01
import Derived.Test.YtobpljbkdffkbaaGreatP29
set_option linter.all false
set_option maxRecDepth 100000
namespace Go.Proofs.YtobpljbkdffkbaaGreat
open Go.RowKit Go.XK Go.ChangeShapes Go.WideShapes Go.ChangeAt
theorem finds_own:ownKnob Tryz.prog.godebug=none:=by kernel_rfl
theorem finds_laid:laidOutB Tryz.prog=true:=by kernel_rfl
theorem finds_glob (m:Go.SX.Mm):Go.SX.Glob Go.SX.E0.G m:=fun g s h=>by cases h
set_option maxRecDepth 100000 in
theorem finds_any (m:Go.SX.TImage) (hm:Go.SX.ImOk m) (a1:ByteArray) (vs:List Value) (W:World) (hv:Go.SX.DenL (Go.SX.mm0 W) [] (.agg (Go.SX.ES35 m)::[.str a1]) vs) :
   Calls Tryz.prog 4 vs.toArray W fun e w'=>e=.returned (.bool true)∧Ext W w':=by
 refine(Go.SX.F_BE.ok _ (Go.SX.mm0 W) [] vs (finds_glob _) (fun b h=>h) hv hm).mono fun e w' ⟨v,S,he,hx,_,_,hd⟩=>⟨?_,hx⟩
 rw [Go.SX.Den]at hd;rw [he,hd]
set_option maxRecDepth 100000 in
theorem finds_lifted (os:Os) (started:os.Started) (H:Type) (enc:TypeId×Value→H) (F:Stop.Interp) :
   ReturnsInHanded {} Tryz.checked os 4 .any ((Rows.OpenSpec.upto Rows.locateFindsSpec).pre6 enc Tryz.prog Tryz.f4 Rows.locateFindsUptoRow.domain false) (((Rows.OpenSpec.upto Rows.locateFindsSpec).at F).post enc Tryz.prog Tryz.f4 false true false false):=by
 refine law_liftedU (C:=Tryz.checked) finds_own started (by kernel_rfl) Tryz.func4
   (OpenSpec.witness (enc:=enc) (C:=Tryz.checked) (s:=Rows.OpenSpec.upto Rows.locateFindsSpec) (k:=Rows.uptoSmall) rfl false ⟨#[],#[.agg #[.string ByteArray.empty,.bool false,.int .i64 0,.int .i64 0,.int .i64 0,.string ByteArray.empty,.string ByteArray.empty,.int .i64 0,.slice none 0 0,.slice none 0 0,.slice none 0 0,.slice none 0 0,.slice none 0 0,.slice none 0 0,.slice none 0 0,.slice none 0 0,.int .i64 0,.slice none 0 0,.slice none 0 0,.slice none 0 0,.slice none 0 0,.slice none 0 0,.slice none 0 0,.slice none 0 0,.slice none 0 0,.slice none 0 0],.string ByteArray.empty],[]⟩ 8 (by kernel_rfl) (by kernel_rfl) (by kernel_rfl)
     (x:=([.agg [.lit (.string []),.lit (.bool false),.lit (.int .i64 0),.lit (.int .i64 0),.lit (.int .i64 0),.lit (.string []),.lit (.string []),.lit (.int .i64 0),.nil,.nil,.nil,.nil,.nil,.nil,.nil,.nil,.lit (.int .i64 0),.nil,.nil,.agg [.nil,.nil,.nil,.nil,.nil,.nil],.nil],.lit (.string [])],[],[])) (by kernel_rfl) rfl (by kernel_rfl))
   finds_laid (by kernel_rfl) rfl (tb:=4) rfl Tryz.underlying4 (fun ds h=>?_) ?_
 ·have h:ds.length=2:=h
  match ds,h with
  |[d0,d1],_=>rfl
 intro W base args ds p hval0 hA0 hb;have hval:∀ (j:Nat) t v,Tryz.f4.params[j]?=some t→args[j]?=some v→Value.okWide Tryz.prog W .any base t v:=hval0;have hA:DataW.TrodAll enc Tryz.prog W 0 (fun _=>true) true Tryz.f4.params.toList args.toList ds p:=hA0
 rw [Tryz.params4]at hA hval;obtain⟨v0,vs0,d0,ds0,p0,q0,hargs,rfl,rfl,h0,r0⟩:=trodAll_cons hA;obtain⟨v1,vs1,d1,ds1,p1,q1,rfl,rfl,rfl,h1,r1⟩:=trodAll_cons r0;obtain⟨rfl,rfl,rfl⟩:=trodAll_nil r1;obtain rfl:args = #[v0,v1]:=by cases args;simp_all
 have hb0:Go.SX.bulk d0≤1048576:=Nat.le_trans (Go.SX.bulk_part (by simp)) hb
 have hb1:Go.SX.bulk d1≤1048576:=Nat.le_trans (Go.SX.bulk_part (by simp)) hb
 obtain⟨cs,rfl,hs⟩:=okWide_struct Tryz.underlying39 (hval 0 39 v0 rfl rfl);obtain⟨u0,hf0⟩:=h0;rw [show Tryz.prog.cellsOf 39=26 by kernel_rfl]at hs
 obtain⟨m,hD,hQ⟩:=Go.SX.rd_TImage (base:=0) true u0 cs.toList _ (by simpa using hs) hf0 hb0
 obtain⟨s1,rfl⟩:=okWide_string Tryz.underlying9 (hval 1 9 v1 rfl rfl);obtain⟨u1,hf1⟩:=h1;obtain⟨y1,hy1,_⟩:=Go.SX.rd_str (base:=0) Tryz.underlying9 true u1 _ _ rfl hf1 (by have:=hb1;exact this)
 refine(finds_any m (Go.SX.imOk_of hQ hb0) y1 [.agg cs.toList.toArray,.string s1] W ?_).mono fun e w' ⟨he,hx⟩=>⟨he,hx⟩
 rw [Go.SX.DenL];refine⟨_,_,rfl,?_,?_⟩
 ·rw [Go.SX.Den];exact⟨cs.toList,rfl,Go.SX.ES35_iff m |>.1 hD⟩
 obtain⟨_,_,e1,g1,_⟩:=hy1;rw [Go.SX.DenL];refine⟨_,_,rfl,?_,?_⟩
 ·rw [Go.SX.Den];cases e1;exact g1
 rw [Go.SX.DenL]
theorem finds_holds:Rows.LocateFindsUptoSaid :=
 OpenClaim.holds_of_cond 4 Tryz.f4 rfl rfl rfl rfl rfl rfl rfl ⟨rfl,rfl,rfl,rfl,rfl⟩ rfl rfl rfl rfl rfl (by kernel_rfl) Tryz.func4 (by kernel_rfl)
   (of_decide_eq_true (by kernel_rfl)) (by unfold Func.isWrapper;first|(rw [if_pos (by decide +kernel)];kernel_rfl)|(rw [if_neg (by decide +kernel)];exact⟨rfl,rfl⟩))
   (fun os started H enc _ F=>finds_lifted os started H enc F)
#print axioms finds_holds
end Go.Proofs.YtobpljbkdffkbaaGreat
