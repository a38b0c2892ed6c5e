/- A part of the proof (texts B39, B40, GParts, GSearch, B58, GNext). -/
import Derived.Test.YtobpljbkdffkbaaGreatP12
import Derived.Test.YtobpljbkdffkbaaGreatP16
import Derived.Test.YtobpljbkdffkbaaGreatP21
set_option linter.all false
set_option maxRecDepth 100000
namespace Go.SX
open Go.XK Go.RowKit
set_option maxHeartbeats 4000000 in
theorem hc_fpush {z zx:Option Bool} {l:List (TabT 12)} {x:List (TabT 0)} (hb:List.length (α:=TabT 12) l≤262144):HC E0 180 2 [.loc 0 0,.ifc 25 (.lst zx 0 x)] [(0,.row 201 [.osl 1]),(1,.arr 25 z 12 l)] (fun s H n=>s=.tup []∧H=[(0,.row 201 [.osl 2]),(2,.arr 25 none 12 (@HAppend.hAppend (List (List Int)) (List (List Int)) (List (List Int)) _ l [x]))]∧n=3):=by
 refine calls_hc (DB:=[]) (IL:=[]) (WL:=[]) (fn:=Proofs.Tryz.f180) rfl rfl rfl rfl (by unfold FnOK;kernel_rfl) (fun hk=>?_)
 simp only [know]at hk;have hb2:(List.length (α:=TabT 12) l+1)*24≤140737488355328:=by omega
 repeat' (refine bc_ fun g_=>?_;(conv at g_=>(arg 1;whnf));refine g_ ?_;clear g_;first|(intro bq;cases bq;rotate_left;(focus (intro hbq;exact absurd (hbq rfl) (by omega)));intro _)|((fail_if_success (apply cH_));(fail_if_success (apply uR_));apply Or.inl)|(apply rn_;exact rm_;exact me_)|(apply mt_;exact me_)|((fail_if_success (fail_if_success (apply Exists.intro)));first|(refine ⟨[1,1,1,0,1,1,2,3,1,3],[0,1,2,4,5,3,6,7,8,9],(okX_len (n:=10) rfl (by decide +kernel)),?_⟩;(conv=>whnf);(fail_if_success (apply fa_))))|(apply ob0_;first|(exact hb2)|exact obc_|(exact of_decide_eq_true rfl))|(apply And.intro<;>(intro h;have hc:=h;(try exact nc1_ hc);(try exact nc2_ hc);try simp only [bs]at h))|(intro h;(try (unfold und at h;conv at h=>whnf));try simp only [bs]at h)|(apply wr0_;exact wrc_)|(apply wg0_;exact wgc_))
 all_goals (conv=>whnf)
 refine⟨[],[],_,_,[3],⟨rfl,rfl,rfl⟩,?_⟩
 conv=>whnf
 exact me_
set_option maxHeartbeats 4000000 in
theorem hc_fpop {z:Option Bool} {l:List (TabT 12)} (h0:0<List.length (α:=TabT 12) l) (hb:List.length (α:=TabT 12) l≤262144):HC E0 179 2 [.loc 0 0] [(0,.row 201 [.osl 1]),(1,.arr 25 z 12 l)] (fun s H n=>s=.ifc 25 (.lst none 0 (rowA l ((List.length (α:=TabT 12) l:Int)-1).toNat))∧H=[(0,.row 201 [.osl 2]),(2,.arr 25 none 12 (List.take (List.length (α:=TabT 12) l-1) l))]∧n=3):=by
 refine calls_hc (DB:=[]) (IL:=[]) (WL:=[]) (fn:=Proofs.Tryz.f179) rfl rfl rfl rfl (by unfold FnOK;kernel_rfl) (fun hk=>?_)
 simp only [know]at hk
 repeat' (refine bc_ fun g_=>?_;(conv at g_=>(arg 1;whnf));refine g_ ?_;clear g_;first|(intro bq;cases bq;rotate_left;(focus (intro hbq;exact absurd (hbq rfl) (by omega)));intro _)|((fail_if_success (apply cH_));(fail_if_success (apply uR_));apply Or.inl)|(apply rn_;exact rm_;exact me_)|(apply mt_;exact me_)|(apply ob0_;first|exact obc_|(exact of_decide_eq_true rfl))|(apply And.intro<;>(intro h;have hc:=h;(try exact nc1_ hc);(try exact nc2_ hc);try simp only [bs]at h))|(intro h;(try (unfold und at h;conv at h=>whnf));try simp only [bs]at h)|(apply wr0_;exact wrc_)|(apply wg0_;exact wgc_))
 all_goals (conv=>whnf)
 refine⟨[],[(100000,25,12)],_,_,[2],⟨rfl,rfl,rfl⟩,?_⟩
 conv=>whnf
 refine bc_ fun g_=>?_;(conv at g_=>(arg 1;whnf));refine g_ ?_;clear g_;repeat' (first|((with_reducible apply And.intro)<;>(first|(with_reducible refine leS_q ?_;apply rfl)|(with_reducible refine leH_rf ?_;apply rfl)|(refine bc_ fun g_=>?_;(conv at g_=>(arg 1;whnf));refine g_ ?_;clear g_)))|(with_reducible apply trivial)|apply rfl|apply(Or.inl rfl)|apply(Or.inr rfl)|apply(Or.inr (Or.inl rfl))|apply trivial|(apply And.intro<;>(refine bc_ fun g_=>?_;(conv at g_=>(arg 1;whnf));refine g_ ?_;clear g_)))
 all_goals (first|exact eqL_of (by rw [show((List.length (α:=TabT 12) l:Int)-1).toNat-Int.toNat 0=List.length (α:=TabT 12) l-1 by omega];rfl)|exact(by rw [show((List.length (α:=TabT 12) l:Int)-1).toNat-Int.toNat 0=List.length (α:=TabT 12) l-1 by omega];rfl))
set_option maxHeartbeats 4000000 in
theorem hc_hpush {z zx:Option Bool} {l:List (TabT 12)} {x:List (TabT 0)} (hb:List.length (α:=TabT 12) l≤262143) (hR:NE l) (hx:0<List.length (α:=TabT 0) x):HC E0 140 2 [.ifc 200 (.loc 0 0),.ifc 25 (.lst zx 0 x)] [(0,.row 201 [.osl 1]),(1,.arr 25 z 12 l)] (fun s H n=>s=.tup []∧H=[(0,.row 201 [.osl 2]),(2,.arr 25 none 12 (pushH l x))]∧n=3):=by
 refine calls_hc (DB:=[]) (IL:=[I_BW]) (WL:=[]) (fn:=Proofs.Tryz.f140) rfl rfl rfl rfl (by unfold FnOK;kernel_rfl) (fun hk=>?_)
 simp only [know]at hk;have hb1:List.length (α:=TabT 12) l≤262144:=by omega
 have hl1:List.length (α:=List Int) (@HAppend.hAppend (List (List Int)) (List (List Int)) (List (List Int)) _ l [x])=List.length (α:=TabT 12) l+1:=List.length_append;have ej:((List.length (α:=List Int) (@HAppend.hAppend (List (List Int)) (List (List Int)) (List (List Int)) _ l [x]):Nat):Int)-1=(List.length (α:=TabT 12) l:Nat):=by omega
 have hj2:List.length (α:=TabT 12) l<List.length (α:=List Int) (@HAppend.hAppend (List (List Int)) (List (List Int)) (List (List Int)) _ l [x]):=by omega
 have hl2:List.length (α:=List Int) (@HAppend.hAppend (List (List Int)) (List (List Int)) (List (List Int)) _ l [x])≤262144:=by omega
 have hR2:NE (@HAppend.hAppend (List (List Int)) (List (List Int)) (List (List Int)) _ l [x]):=NE_iff.2 fun r hr=>by
   rcases List.mem_append.1 hr with hr|hr
   ·exact NE_iff.1 hR r hr
   ·rw [List.mem_singleton.1 hr];exact List.length_pos_iff.1 hx
 repeat' (refine bc_ fun g_=>?_;(conv at g_=>(arg 1;whnf));refine g_ ?_;clear g_;first|(intro bq;cases bq;rotate_left;(focus (intro hbq;exact absurd (hbq rfl) (by omega)));intro _)|((fail_if_success (fail_if_success (apply Or.inl)));refine Or.inl ⟨_,_,_,_,[0,1],hc_fpush hb1,rfl,rfl,rfl,rfl,rfl,(And.intro rfl (And.intro rfl trivial)),?_⟩;(rintro _ _ _ ⟨rfl,rfl,rfl⟩;refine And.intro rfl (And.intro rfl ?_)))|((fail_if_success (fail_if_success (apply Or.inl)));refine Or.inl ⟨_,_,_,_,[0,2],hc_hup ej hj2 hl2 hR2,rfl,rfl,rfl,rfl,rfl,(And.intro rfl (And.intro rfl trivial)),?_⟩;(rintro _ _ _ ⟨rfl,rfl,rfl⟩;refine And.intro rfl (And.intro rfl ?_)))|((fail_if_success (apply cH_));(fail_if_success (apply uR_));apply Or.inl)|(apply rn_;exact rm_;exact me_)|(apply mt_;exact me_)|(apply ob0_;first|exact obc_|(exact of_decide_eq_true rfl))|(apply And.intro<;>(intro h;have hc:=h;(try exact nc1_ hc);(try exact nc2_ hc);try simp only [bs]at h))|(intro h;(try (unfold und at h;conv at h=>whnf));try simp only [bs]at h)|(apply wr0_;exact wrc_)|(apply wg0_;exact wgc_))
 all_goals (conv=>whnf)
 refine⟨[],[],_,_,[2],⟨rfl,rfl,rfl⟩,?_⟩
 conv=>whnf
 exact me_
set_option maxHeartbeats 4000000 in
theorem hc_hpop {z:Option Bool} {l:List (TabT 12)} (h0:0<List.length (α:=TabT 12) l) (hb:List.length (α:=TabT 12) l≤262144) (hR:NE l):HC E0 141 2 [.ifc 200 (.loc 0 0)] [(0,.row 201 [.osl 1]),(1,.arr 25 z 12 l)] (fun s H n=>s=.ifc 25 (.lst none 0 (rowA (popH l) ((List.length (α:=TabT 12) (popH l):Int)-1).toNat))∧H=[(0,.row 201 [.osl 2]),(2,.arr 25 none 12 (List.take (List.length (α:=TabT 12) (popH l)-1) (popH l)))]∧n=3):=by
 refine calls_hc (DB:=[]) (IL:=[I_BW,I_BY]) (WL:=[]) (fn:=Proofs.Tryz.f141) rfl rfl rfl rfl (by unfold FnOK;kernel_rfl) (fun hk=>?_)
 simp only [know]at hk;have em:(List.length (α:=TabT 12) l:Int)-1=(List.length (α:=TabT 12) l-1:Nat):=by omega
 have hsl:List.length (α:=List Int) (swapR l 0 (List.length (α:=TabT 12) l-1))=List.length (α:=TabT 12) l:=swap_len l _ _;have hs1:swapR l 0 (List.length (α:=TabT 12) l-1)=swapR l (Int.toNat 0) ((List.length (α:=TabT 12) l:Int)-1).toNat:=by rw [em];rfl
 have hi2:0<List.length (α:=List Int) (swapR l (Int.toNat 0) ((List.length (α:=TabT 12) l:Int)-1).toNat):=by rw [← hs1];omega
 have hb2:List.length (α:=List Int) (swapR l (Int.toNat 0) ((List.length (α:=TabT 12) l:Int)-1).toNat)≤262144:=by rw [← hs1];omega
 have hn2:List.length (α:=TabT 12) l-1≤List.length (α:=List Int) (swapR l (Int.toNat 0) ((List.length (α:=TabT 12) l:Int)-1).toNat):=by rw [← hs1];omega
 have hR2:NE (swapR l (Int.toNat 0) ((List.length (α:=TabT 12) l:Int)-1).toNat):=by rw [← hs1];exact NE_swap hR h0 (by show _<List.length (α:=TabT 12) l;omega)
 have hD:popH l=(downS (List.length (α:=TabT 12) l-1) (swapR l (Int.toNat 0) ((List.length (α:=TabT 12) l:Int)-1).toNat) 0).1:=by
   unfold popH;show(downS (List.length (α:=TabT 12) l-1) (swapR l 0 (List.length (α:=TabT 12) l-1)) 0).1=_;rw [hs1]
 have hDl:List.length (α:=List Int) (downS (List.length (α:=TabT 12) l-1) (swapR l (Int.toNat 0) ((List.length (α:=TabT 12) l:Int)-1).toNat) 0).1=List.length (α:=TabT 12) l:=by rw [← hD];exact(pop_keep h0).1
 have h03:0<List.length (α:=List Int) (downS (List.length (α:=TabT 12) l-1) (swapR l (Int.toNat 0) ((List.length (α:=TabT 12) l:Int)-1).toNat) 0).1:=by omega
 have hb3:List.length (α:=List Int) (downS (List.length (α:=TabT 12) l-1) (swapR l (Int.toNat 0) ((List.length (α:=TabT 12) l:Int)-1).toNat) 0).1≤262144:=by omega
 rw [hD];have oS:∀ (q:Nat) (x:TabT 12),0≤(List.length (α:=TabT 12) l:Int)-1∧(List.length (α:=TabT 12) l:Int)-1<(List.length (α:=TabT 12) (List.set (α:=TabT 12) l q x):Nat):=fun q x=>⟨by omega,by rw [@List.length_set (TabT 12) l q x];omega⟩
 repeat' (refine bc_ fun g_=>?_;(conv at g_=>(arg 1;whnf));refine g_ ?_;clear g_;first|(intro bq;cases bq;rotate_left;(focus (intro hbq;exact absurd (hbq rfl) (by omega)));intro _)|((fail_if_success (fail_if_success (apply Or.inl)));refine Or.inl ⟨_,_,_,_,[0,1],hc_hdown rfl em hi2 hb2 hn2 hR2,rfl,rfl,rfl,rfl,rfl,(And.intro rfl (And.intro rfl trivial)),?_⟩;(rintro _ _ _ ⟨rfl,rfl,rfl⟩;refine And.intro rfl (And.intro rfl ?_)))|((fail_if_success (fail_if_success (apply Or.inl)));refine Or.inl ⟨_,_,_,_,[0,1],hc_fpop h03 hb3,rfl,rfl,rfl,rfl,rfl,(And.intro rfl (And.intro rfl trivial)),?_⟩;(rintro _ _ _ ⟨rfl,rfl,rfl⟩;refine And.intro rfl (And.intro rfl ?_)))|((fail_if_success (apply cH_));(fail_if_success (apply uR_));apply Or.inl)|(apply rn_;exact rm_;exact me_)|(apply mt_;exact me_)|((fail_if_success (fail_if_success (apply Exists.intro)));first|(refine ⟨[1,1,1,1,1,1,1,0,1,1,1,0,1,3,1,3],[0,1,2,3,4,5,6,8,9,10,7,11,12,13,14,15],(okX_len (n:=16) rfl (by decide +kernel)),?_⟩;(conv=>whnf);(fail_if_success (apply fa_))))|(apply ob0_;first|(exact oS _ _)|exact obc_|(exact of_decide_eq_true rfl))|(apply And.intro<;>(intro h;have hc:=h;(try exact nc1_ hc);(try exact nc2_ hc);try simp only [bs]at h))|(intro h;(try (unfold und at h;conv at h=>whnf));try simp only [bs]at h)|(apply wr0_;exact wrc_)|(apply wg0_;exact wgc_))
 all_goals (conv=>whnf)
 refine⟨[],[],_,_,[2],⟨rfl,rfl,rfl⟩,?_⟩
 conv=>whnf
 exact me_
end Go.SX
namespace Go.SX
open Go.XK Go.RowKit
noncomputable def I_BV:Inl E0:=Inl.of 142 Proofs.Tryz.f142 rfl rfl (by unfold FnOK;kernel_rfl)
noncomputable def I_Bq:Inl E0:=Inl.of 156 Proofs.Tryz.f156 rfl rfl (by unfold FnOK;kernel_rfl)
def arcBad (n:Int) (a:TArc):Bool:=bif !(decide (0≤a.From)&&decide (a.From<n))then true else !(decide (0≤a.To)&&decide (a.To<n))
def gRight (n:Int) (arcs:List TArc):Bool:=(decide (0≤n)&&decide (n≤262144))&&!((List.range arcs.length).any fun k=>arcBad n (gt 39 arcs k))
@[reducible] def a_Bv:List SV→PR
 |[.agg [.i a,.i b],.fp [.clo 142 [] [.fp [.i n] 0]] 0]=>.ok (.b (arcBad n ⟨a,b⟩))
 |_=>.no
theorem o_DJ:FOK 144 a_Bv:=by
 intro args m ids vs hG hm hv;unfold a_Bv;split
 ·rename_i a b n;refine calls_fact (DB:=[]) (IL:=[I_BV]) (WL:=[]) (fn:=Proofs.Tryz.f144) rfl rfl rfl rfl rfl rfl (fun hk=>?_) m ids vs hG hm hv
  clear hG hm hv
  repeat' (refine bc_ fun g_=>?_;(conv at g_=>(arg 1;whnf));refine g_ ?_;clear g_;first|((fail_if_success (apply cH_));(fail_if_success (apply uR_));apply Or.inl)|(apply rn_;exact rm_;exact me_)|(apply mt_;exact me_)|(apply ob0_;first|exact obc_)|(apply And.intro<;>(intro h;have hc:=h;try simp only [bs]at h))|(intro h;(try (unfold und at h;conv at h=>whnf));try simp only [bs]at h)|(apply wr0_;exact wrc_)|(apply wg0_;exact wgc_))
  all_goals (conv=>whnf)
  (repeat (first|exact rfl|refine eq_ct (by assumption) ?_|refine eq_cf (by assumption) ?_|refine eq_it (by first|assumption|omega) ?_|refine eq_ie (by first|assumption|omega) ?_))
 ·trivial
noncomputable def F_AG:Fact E0:=⟨144,a_Bv,by unfold FnOK;kernel_rfl,o_DJ⟩
@[reducible] def a_DB:List SV→PR
 |[.lst z 39 l,.clo 144 [] [.fp [.clo 142 [] [.fp [.i n] 0]] 0]]=>.ok (.b ((List.range l.length).any (fun k:Nat=>arcBad n (gt 39 l k))))
 |_=>.no
theorem o_EP:FOK 143 a_DB:=by
 intro args m ids vs hG hm hv;unfold a_DB;split
 ·rename_i z l n;refine calls_fact (DB:=[F_AG]) (IL:=[I_Bq]) (WL:=[]) (fn:=Proofs.Tryz.f143) rfl rfl rfl rfl rfl rfl (fun hk=>?_) m ids vs hG hm hv
  clear hG hm hv;simp only [know]at hk
  repeat' (refine bc_ fun g_=>?_;(conv at g_=>(arg 1;whnf));refine g_ ?_;clear g_;first|((fail_if_success (apply cH_));(fail_if_success (apply uR_));apply Or.inl)|(apply rn_;exact rm_;exact me_)|(apply mt_;exact me_)|(apply ob0_;first|exact obc_)|(apply And.intro<;>(intro h;have hc:=h;try simp only [bs]at h))|(intro h;(try (unfold und at h;conv at h=>whnf));try simp only [bs]at h)|(apply wr0_;exact wrc_)|(apply wg0_;exact wgc_))
  all_goals (conv=>whnf)
  refine Or.inr (Or.inr ⟨[],[8],[],[],[0,1,7],[],?_⟩);conv=>whnf
  refine⟨fun(s:Int×Unit) (_:Unit)=>0≤s.1∧s.1≤l.length∧∀ j:Nat,j<s.1→(fun k:Nat=>arcBad n (gt 39 l k)) j=false,fun(s:Int×Unit) (_:Unit)=>(l.length-s.1).toNat,?_⟩
  conv=>whnf
  refine Ini.mk ⟨by omega,by omega,fun j hj=>absurd hj (by omega)⟩ me_ ?_
  rintro⟨(k:Int),_⟩ _ ⟨h0,h1,h2⟩
  try dsimp only at h0 h1 h2
  obtain⟨k,rfl⟩:=Int.eq_ofNat_of_zero_le h0
  repeat' (refine bc_ fun g_=>?_;(conv at g_=>(arg 1;whnf));refine g_ ?_;clear g_;first|((fail_if_success (apply cH_));(fail_if_success (apply uR_));apply Or.inl)|(apply rn_;exact rm_;exact me_)|(apply mt_;exact me_)|(apply ob0_;first|exact obc_)|(apply And.intro<;>(intro h;have hc:=h;try simp only [bs]at h))|(intro h;(try (unfold und at h;conv at h=>whnf));try simp only [bs]at h)|(apply wr0_;exact wrc_)|(apply wg0_;exact wgc_))
  all_goals (conv=>whnf)
  ·(try dsimp only);rw [any_t (p:=fun k:Nat=>arcBad n (gt 39 l k)) (k:=k) (by omega) (by first|assumption|exact h|exact hc|exact ntr hc)];simp
  ·(try dsimp only)
   refine⟨by omega,by omega,fun j hj=>?_⟩
   rcases Nat.lt_succ_iff_lt_or_eq.1 (show j<k+1 by omega)with hj|rfl
   ·exact h2 j (by omega)
   ·first|assumption|(rename_i hx;exact hx)|(rename_i hx _;exact nfl hx)|(rename_i hx _ _;exact nfl hx)|(rename_i hx _ _ _;exact nfl hx)
  ·rw [any_f (p:=fun k:Nat=>arcBad n (gt 39 l k)) fun j hj=>h2 j (by omega)];rfl
 ·trivial
noncomputable def F_BP:Fact E0:=Fact.co [.lst none 39 [],.clo 144 [] [.fp [.clo 142 [] [.fp [.un] 0]] 0]] ⟨143,a_DB,by unfold FnOK;kernel_rfl,o_EP⟩
@[reducible] def a_Bu:List SV→PR
 |[.i n,.lst z 39 arcs]=>.ok (.b (gRight n arcs))
 |_=>.no
theorem o_DI:FOK 121 a_Bu:=by
 intro args m ids vs hG hm hv;unfold a_Bu;split
 ·rename_i n z arcs;refine calls_fact (DB:=[F_BP]) (IL:=[]) (WL:=[]) (fn:=Proofs.Tryz.f121) rfl rfl rfl rfl rfl rfl (fun hk=>?_) m ids vs hG hm hv
  clear hG hm hv
  repeat' (refine bc_ fun g_=>?_;(conv at g_=>(arg 1;whnf));refine g_ ?_;clear g_;first|((fail_if_success (apply cH_));(fail_if_success (apply uR_));apply Or.inl)|(apply rn_;exact rm_;exact me_)|(apply mt_;exact me_)|(apply ob0_;first|exact obc_)|(apply And.intro<;>(intro h;have hc:=h;try simp only [bs]at h))|(intro h;(try (unfold und at h;conv at h=>whnf));try simp only [bs]at h)|(apply wr0_;exact wrc_)|(apply wg0_;exact wgc_))
  all_goals (conv=>whnf)
  all_goals rfl
 ·trivial
noncomputable def F_AF:Fact E0:=Fact.co [.un,.lst none 39 []] ⟨121,a_Bu,by unfold FnOK;kernel_rfl,o_DI⟩
end Go.SX
namespace Go.SX
open Go.XK Go.RowKit
section
variable {nx:Rows} {n:Nat} {idx0:List Int} {root R:Int}
theorem iter_ok (hx:NxOk nx n):∀ (k:Nat) {s:GS},GOk nx n idx0 root R s→GOk nx n idx0 root R (iterF nx k s)
 |0,_,h=>h
 |k+1,s,h=>by
   rw [iterF]
   cases hs:stepF nx s with
   |none=>exact h
   |some s'=>exact iter_ok hx k (step_ok hx h hs).1
theorem iter_done (hx:NxOk nx n):∀ (k:Nat) {s:GS},GOk nx n idx0 root R s→muF nx s≤k→stepF nx (iterF nx k s)=none
 |0,s,h,hk=>by
   show stepF nx s=none
   cases hs:stepF nx s with
   |none=>rfl
   |some s'=>have:=(step_ok hx h hs).2;omega
 |k+1,s,h,hk=>by
   rw [iterF]
   cases hs:stepF nx s with
   |none=>exact hs
   |some s'=>exact iter_done hx k (step_ok hx h hs).1 (by have:=(step_ok hx h hs).2;omega)
theorem step_none {s:GS} (h:stepF nx s=none):s.calls=[]:=by
 unfold stepF at h;split at h
 ·split at h
  ·split at h
   ·cases h
   ·split at h<;>cases h
  ·cases h
 ·rename_i hc;exact List.length_eq_zero_iff.1 (by omega)
end
structure VOk (nx:Rows) (n:Nat) (f:FS):Prop where
 ok:FOk nx n f.index f
 st:f.stack=[]
 pl:f.parts.length≤vis f.index
theorem FOk.re {nx:Rows} {n:Nat} {i0:List Int} {f:FS} (h:FOk nx n i0 f):FOk nx n f.index f:=⟨h.li,h.ll,h.lp,h.cnt,h.stk,h.sr,h.p0,h.pn,h.seen,h.nd,h.ile,fun _ _ _ h=>h⟩
theorem find_ok {nx:Rows} {n:Nat} (hx:NxOk nx n) {f:FS} {root:Int} (h:VOk nx n f) (hr:0≤root∧root<n) (h0:gi f.index root=0) :
   VOk nx n (findS nx f root)∧(∀ v:Int,0≤v→v<n→gi f.index v≠0→gi (findS nx f root).index v≠0)∧gi (findS nx f root).index root≠0:=by
 have hs:=start_ok hx h.ok h.st h.pl hr h0;have hk:=iter_ok hx (muF nx (startF f root)) hs;have hd:=step_none (iter_done hx _ hs (Nat.le_refl _));have e:findS nx f root=(iterF nx (muF nx (startF f root)) (startF f root)).f:=rfl;have hk:GOk nx n f.index root (f.count+1) (iterF nx (muF nx (startF f root)) (startF f root)):=hk;rw [e];refine⟨⟨hk.toFOk.re,hk.fin hd,?_⟩,hk.mono,?_⟩
 ·have:=hk.cl;omega
 ·rw [hk.rt.2.2.1];have:=hk.R1;omega
def visI (nx:Rows) (f:FS) (v:Nat):FS:=if gi f.index v=0 then findS nx f v else f
def visS (nx:Rows) (f:FS):Nat→FS
 |0=>f
 |k+1=>visI nx (visS nx f k) k
def f0 (n:Nat):FS:=⟨List.replicate n 0,List.replicate n 0,[],List.replicate n 0,[],0⟩
theorem gi_rep (n:Nat) (v:Int):gi (List.replicate n 0) v=0:=by
 unfold gi;rw [List.getD_eq_getElem?_getD,List.getElem?_replicate];split<;>rfl
theorem vis_rep (n:Nat):vis (List.replicate n 0)=0:=by
 unfold vis;rw [List.countP_eq_zero];intro a ha;rw [(List.mem_replicate.1 ha).2]
 decide
theorem f0_ok (nx:Rows) (n:Nat):VOk nx n (f0 n):=by
 refine⟨⟨List.length_replicate ..,List.length_replicate ..,List.length_replicate ..,?_,Nat.zero_le _,fun v hv=>(by cases hv),fun v _ _=>?_,fun p hp=>(by cases hp),fun v _ _ h=>absurd (gi_rep n v) h,List.nodup_nil,fun v _ _=>?_,fun _ _ _ h=>h⟩,rfl,Nat.zero_le _⟩
 ·show(0:Int)=(vis (List.replicate n 0):Nat);rw [vis_rep];rfl
 ·show 0≤gi (List.replicate n 0) v∧gi (List.replicate n 0) v≤_;rw [gi_rep];exact⟨Int.le_refl _,Int.natCast_nonneg _⟩
 ·show gi (List.replicate n 0) v≤0;rw [gi_rep];exact Int.le_refl _
theorem vis_ok {nx:Rows} {n:Nat} (hx:NxOk nx n):∀ k,k≤n→VOk nx n (visS nx (f0 n) k)∧∀ v:Int,0≤v→v<k→gi (visS nx (f0 n) k).index v≠0
 |0,_=>⟨f0_ok nx n,fun v h1 h2=>by omega⟩
 |k+1,hk=>by
   obtain⟨h1,h2⟩:=vis_ok hx k (by omega)
   rw [visS,visI];split
   ·rename_i h0;obtain⟨h3,h4,h5⟩:=find_ok hx h1 ⟨by omega,by omega⟩ h0
    refine⟨h3,fun v hv hv2=>?_⟩
    by_cases e:v=k
    ·rw [e];exact h5
    ·exact h4 v hv (by omega) (h2 v hv (by omega))
   ·rename_i h0;refine⟨h1,fun v hv hv2=>?_⟩
    by_cases e:v=k
    ·rw [e];exact h0
    ·exact h2 v hv (by omega)
structure POk (n:Nat) (part:List Int) (parts:Rows):Prop where
 lp:part.length=n
 pl:parts.length≤n
 p1:∀ v:Int,0≤v→v<n→1≤gi part v∧gi part v≤parts.length
 pn:∀ p∈parts,p≠[]∧∀ w∈p,0≤w∧w<n
theorem vis_all {nx:Rows} {n:Nat} (hx:NxOk nx n):POk n (visS nx (f0 n) n).part (visS nx (f0 n) n).parts:=by
 obtain⟨h1,h2⟩:=vis_ok hx n (Nat.le_refl _);refine⟨h1.ok.lp,?_,fun v hv hv2=>⟨?_,(h1.ok.p0 v hv hv2).2⟩,h1.ok.pn⟩
 ·have:=h1.pl;have:=vis_le (visS nx (f0 n) n).index;rw [h1.ok.li]at this;omega
 ·rcases h1.ok.seen v hv hv2 (h2 v hv hv2)with h|h
  ·exact h
  ·rw [h1.st]at h;cases h
def wuI (part row:List Int) (v:Nat) (s:List Int×Rows) (k:Nat):List Int×Rows :=
 if gi part v=gi part (gi row k)then s
 else(s.1.set (gi part v).toNat (gi s.1 (gi part v)+1),s.2.set (gi part (gi row k)).toNat (rowA s.2 (gi part (gi row k)).toNat++[gi part v]))
def wuR (part row:List Int) (v:Nat) (s:List Int×Rows):Nat→List Int×Rows
 |0=>s
 |k+1=>wuI part row v (wuR part row v s k) k
def wuS (part:List Int) (nx:Rows) (s:List Int×Rows):Nat→List Int×Rows
 |0=>s
 |v+1=>wuR part (rowA nx v) v (wuS part nx s v) (rowA nx v).length
def wu0 (P:Nat):List Int×Rows:=(List.replicate (P+1) 0,List.replicate (P+1) [])
structure WOk (P:Nat) (d:Nat) (s:List Int×Rows):Prop where
 lw:s.1.length=P+1
 lu:s.2.length=P+1
 w:∀ p:Int,0≤gi s.1 p∧gi s.1 p≤d
 u:∀ q:Nat,∀ p∈rowA s.2 q,1≤p∧p≤P
 ul:∀ q:Nat,(rowA s.2 q).length≤d
 w0:gi s.1 0=0
theorem gi_set' {l:List Int} {k:Nat} {j x:Int}:gi (l.set k x) j=if k=j.toNat∧k<l.length then x else gi l j:=by
 have:=gi_set (l:=l) (k:=(k:Int)) (j:=j) (x:=x);simpa using this
theorem wuI_ok {n P d:Nat} {part row:List Int} {parts:Rows} {v:Nat} {s:List Int×Rows} {k:Nat} (hp:POk n part parts) (hP:parts.length=P) (h:WOk P d s) (hv:v<n) (hk:0≤gi row k∧gi row k<n):WOk P (d+1) (wuI part row v s k):=by
 have hpv:=hp.p1 v (by omega) (by omega)
 have hpw:=hp.p1 (gi row k) hk.1 hk.2;unfold wuI;split
 ·exact⟨h.lw,h.lu,fun p=>by have:=h.w p;omega,h.u,fun q=>by have:=h.ul q;omega,h.w0⟩
 ·refine⟨(List.length_set ..).trans h.lw,(List.length_set ..).trans h.lu,fun p=>?_,fun q p hpq=>?_,fun q=>?_,?_⟩
  ·show 0≤gi (s.1.set _ _) p∧gi (s.1.set _ _) p≤_;rw [gi_set'];have h1:=h.w p;have h2:=h.w (gi part v);split<;>omega
  ·have hpq:p∈rowA (s.2.set (gi part (gi row k)).toNat (rowA s.2 (gi part (gi row k)).toNat++[gi part v])) q:=hpq;rw [rowA_set]at hpq;split at hpq
   ·rcases List.mem_append.1 hpq with hpq|hpq
    ·exact h.u _ p hpq
    ·rw [List.mem_singleton.1 hpq];omega
   ·exact h.u q p hpq
  ·show(rowA (s.2.set (gi part (gi row k)).toNat (rowA s.2 (gi part (gi row k)).toNat++[gi part v])) q).length≤d+1;rw [rowA_set];split
   ·rw [List.length_append];exact Nat.succ_le_succ (h.ul _)
   ·exact Nat.le_succ_of_le (h.ul q)
  ·show gi (s.1.set _ _) 0=0;rw [gi_set',if_neg (by omega)]
   exact h.w0
theorem wuR_ok {n P d:Nat} {part row:List Int} {parts:Rows} {v:Nat} {s:List Int×Rows} (hp:POk n part parts) (hP:parts.length=P) (h:WOk P d s) (hv:v<n) (hr:∀ w∈row,0≤w∧w<n):∀ k,k≤row.length→WOk P (d+k) (wuR part row v s k)
 |0,_=>h
 |k+1,hk=>by
   have ih:=wuR_ok hp hP h hv hr k (by omega)
   rw [wuR];exact wuI_ok hp hP ih hv (hr _ (gi_mem (by omega)))
theorem rep_row (P q:Nat):rowA (List.replicate P []) q=[]:=by
 unfold rowA;rw [List.getD_eq_getElem?_getD,List.getElem?_replicate];split<;>rfl
theorem wu0_ok (P:Nat):WOk P 0 (wu0 P):=⟨List.length_replicate ..,List.length_replicate ..,fun p=>by show 0≤gi (List.replicate (P+1) 0) p∧gi (List.replicate (P+1) 0) p≤_;rw [gi_rep];exact⟨Int.le_refl _,Int.le_refl _⟩,fun q p hp=>by
 have hp:p∈rowA (List.replicate (P+1) []) q:=hp;rw [rep_row]at hp
 exact absurd hp (List.not_mem_nil),fun q=>by show(rowA (List.replicate (P+1) []) q).length≤0;rw [rep_row];exact Nat.le_refl _,gi_rep ..⟩
def rdS (W:List Int) (parts:Rows):Nat→Rows
 |0=>[]
 |k+1=>if gi W ((k:Int)+1)=0 then pushH (rdS W parts k) (rowA parts k)else rdS W parts k
theorem rdS_s1 {W:List Int} {parts:Rows} {k:Nat} (h:gi W ((k:Int)+1)=0):rdS W parts (k+1)=pushH (rdS W parts k) (rowA parts k):=by rw [rdS,if_pos h]
theorem rdS_s0 {W:List Int} {parts:Rows} {k:Nat} (h:¬ gi W ((k:Int)+1)=0):rdS W parts (k+1)=rdS W parts k:=by rw [rdS,if_neg h]
def cnt1 (W:List Int):Nat:=W.countP fun x=>decide (1≤x)
structure TS where
 h:Rows
 W:List Int
 out:Rows
def lsI (parts:Rows) (row:List Int) (s:Rows×List Int) (k:Nat):Rows×List Int :=
 (if gi (s.2.set (gi row k).toNat (gi s.2 (gi row k)-1)) (gi row k)=0 then pushH s.1 (rowA parts (gi row k-1).toNat)else s.1,s.2.set (gi row k).toNat (gi s.2 (gi row k)-1))
def lsR (parts:Rows) (row:List Int) (s:Rows×List Int):Nat→Rows×List Int
 |0=>s
 |k+1=>lsI parts row (lsR parts row s k) k
def popX (h:Rows):List Int:=rowA (popH h) (h.length-1)
def urow (U:Rows) (part:List Int) (h:Rows):List Int:=rowA U (gi part (gi (popX h) 0)).toNat
def lsO (part:List Int) (parts U:Rows) (s:TS):TS :=
 ⟨(lsR parts (urow U part s.h) ((popH s.h).take (s.h.length-1),s.W) (urow U part s.h).length).1,(lsR parts (urow U part s.h) ((popH s.h).take (s.h.length-1),s.W) (urow U part s.h).length).2,s.out++[popX s.h]⟩
def lsS (part:List Int) (parts U:Rows):Nat→TS→TS
 |0,s=>s
 |k+1,s=>if 0<s.h.length then lsS part parts U k (lsO part parts U s)else s
def nuS (s:Rows×List Int):Nat:=cnt1 s.2+s.1.length
def partsOf (n:Nat) (nx:Rows):Rows :=
 let f:=visS nx (f0 n) n
 let P:=f.parts.length
 let wu:=wuS f.part nx (wu0 P) n
 let h:=rdS wu.1 f.parts P
 (lsS f.part f.parts wu.2 (nuS (h,wu.1)) ⟨h,wu.1,[]⟩).out
def partsS (n:Int) (arcs:List TArc):Rows:=bif gRight n arcs then partsOf n.toNat (nextS n arcs)else []
theorem cnt1_set {W:List Int} {k:Nat} {x:Int} (h:k<W.length):cnt1 (W.set k x)+(if 1≤W.getD k 0 then 1 else 0)=cnt1 W+(if 1≤x then 1 else 0):=by
 induction W generalizing k with
 |nil=>exact absurd h (Nat.not_lt_zero _)
 |cons y W ih =>
   cases k with
   |zero =>
     show cnt1 (x::W)+(if 1≤y then 1 else 0)=_
     unfold cnt1;rw [List.countP_cons,List.countP_cons]
     by_cases h1:1≤y<;>by_cases h2:1≤x<;>simp [h1,h2]
   |succ k =>
     have:=ih (k:=k) (by simpa using h)
     show cnt1 (y::W.set k x)+(if 1≤W.getD k 0 then 1 else 0)=_
     unfold cnt1 at this ⊢;rw [List.countP_cons,List.countP_cons];omega
theorem rd_mem (W:List Int) (parts:Rows):∀ k,k≤parts.length→∀ r∈rdS W parts k,r∈parts
 |0,_,r,h=>by cases h
 |k+1,hk,r,h=>by
   rw [rdS]at h;split at h
   ·rcases(push_keep _ _).2 r h with h|h
    ·exact rd_mem W parts k (by omega) r h
    ·rw [h];exact rowA_mem (by omega)
   ·exact rd_mem W parts k (by omega) r h
theorem rd_len0 (W:List Int) (parts:Rows):∀ k,(rdS W parts k).length≤k
 |0=>Nat.le_refl _
 |k+1=>by
   rw [rdS];have:=rd_len0 W parts k;split
   ·rw [(push_keep _ _).1];omega
   ·omega
theorem rd_len (W:List Int) (parts:Rows) (h0:gi W 0=0):∀ k,k+1≤W.length→(rdS W parts k).length+cnt1 (W.take (k+1))≤k
 |0,hk=>by
   show 0+cnt1 (W.take 1)≤0
   match W,h0,hk with
   |[],_,hk=>exact absurd hk (by decide)
   |x::r,h0,_ =>
     have h0:x=0:=h0;subst h0;exact Nat.le_refl _
 |k+1,hk=>by
   have ih:=rd_len W parts h0 k (by omega)
   have e:W.take (k+1+1)=W.take (k+1)++[W[k+1]]:=List.take_succ_eq_append_getElem (by omega)
   have eg:gi W ((k:Int)+1)=W[k+1]:=by
     unfold gi;rw [show((k:Int)+1).toNat=k+1 by omega,List.getD_eq_getElem?_getD,List.getElem?_eq_getElem (by omega)]
     rfl
   rw [e,rdS,eg];unfold cnt1 at ih ⊢;rw [List.countP_append]
   have h1:List.countP (fun x:Int=>decide (1≤x)) [W[k+1]]=if 1≤W[k+1]then 1 else 0:=by
     rw [List.countP_cons,List.countP_nil]
     by_cases h:1≤W[k+1]<;>simp [h]
   rw [h1];split
   ·rename_i h0;rw [(push_keep _ _).1,if_neg (by omega)]
    omega
   ·split<;>omega
theorem rd_nu {W:List Int} {parts:Rows} {P:Nat} (hW:W.length=P+1) (h0:gi W 0=0):nuS (rdS W parts P,W)≤P:=by
 have:=rd_len W parts h0 P (by omega)
 rw [List.take_of_length_le (by omega)]at this
 show cnt1 W+(rdS W parts P).length≤P;omega
structure LOk (P:Nat) (parts:Rows) (d:Nat) (s:Rows×List Int):Prop where
 lw:s.2.length=P+1
 lo:∀ p:Int,-(d:Int)≤gi s.2 p
 hi:∀ p:Int,gi s.2 p≤4611686018427387904
 me:∀ r∈s.1,r∈parts
theorem LOk.mono {P:Nat} {parts:Rows} {d d':Nat} {s:Rows×List Int} (h:LOk P parts d s) (hd:d≤d'):LOk P parts d' s:=⟨h.lw,fun p=>by have:=h.lo p;omega,h.hi,h.me⟩
theorem getD_gi {l:List Int} {p:Int}:l.getD p.toNat 0=gi l p:=rfl
theorem lsI_ok {P d:Nat} {parts:Rows} {row:List Int} {s:Rows×List Int} {k:Nat} (hP:parts.length=P) (h:LOk P parts d s) (hk:1≤gi row k∧gi row k≤P):LOk P parts (d+1) (lsI parts row s k)∧nuS (lsI parts row s k)≤nuS s:=by
 have hc:=cnt1_set (W:=s.2) (k:=(gi row k).toNat) (x:=gi s.2 (gi row k)-1) (by rw [h.lw];omega)
 rw [getD_gi]at hc
 have hg:gi (s.2.set (gi row k).toNat (gi s.2 (gi row k)-1)) (gi row k)=gi s.2 (gi row k)-1:=by
   rw [gi_set,if_pos ⟨rfl,by rw [h.lw];omega⟩]
 refine⟨⟨(List.length_set ..).trans h.lw,fun p=>?_,fun p=>?_,fun r hr=>?_⟩,?_⟩
 ·show _≤gi (s.2.set _ _) p;rw [gi_set'];have h1:=h.lo p;have h2:=h.lo (gi row k);split<;>omega
 ·show gi (s.2.set _ _) p≤_;rw [gi_set'];have h1:=h.hi p;have h2:=h.hi (gi row k);split<;>omega
 ·have hr:r∈(if gi (s.2.set (gi row k).toNat (gi s.2 (gi row k)-1)) (gi row k)=0 then pushH s.1 (rowA parts (gi row k-1).toNat)else s.1):=hr
  split at hr
  ·rcases(push_keep _ _).2 r hr with hr|hr
   ·exact h.me r hr
   ·rw [hr];exact rowA_mem (by omega)
  ·exact h.me r hr
 ·show cnt1 (s.2.set _ _)+(if _ then pushH s.1 (rowA parts (gi row k-1).toNat)else s.1).length≤cnt1 s.2+s.1.length
  rw [hg]
  by_cases h0:gi s.2 (gi row k)-1=0
  ·rw [if_pos h0,(push_keep _ _).1];rw [if_pos (by omega),if_neg (by omega)]at hc
   omega
  ·rw [if_neg h0]
   by_cases h1:1≤gi s.2 (gi row k)
   ·rw [if_pos h1,if_pos (by omega)]at hc
    omega
   ·rw [if_neg h1,if_neg (by omega)]at hc
    omega
theorem lsR_ok {P d:Nat} {parts:Rows} {row:List Int} {s:Rows×List Int} (hP:parts.length=P) (h:LOk P parts d s) (hr:∀ p∈row,1≤p∧p≤P):∀ k,k≤row.length→LOk P parts (d+k) (lsR parts row s k)∧nuS (lsR parts row s k)≤nuS s
 |0,_=>⟨h,Nat.le_refl _⟩
 |k+1,hk=>by
   obtain⟨h1,h2⟩:=lsR_ok hP h hr k (by omega)
   obtain⟨h3,h4⟩:=lsI_ok (row:=row) (k:=k) hP h1 (hr _ (gi_mem (by omega)))
   exact⟨h3,Nat.le_trans h4 h2⟩
theorem pop_ok2 {P d:Nat} {parts h:Rows} {W:List Int} (hh:LOk P parts d (h,W)) (h0:0<h.length):LOk P parts d ((popH h).take (h.length-1),W)∧nuS ((popH h).take (h.length-1),W)+1=nuS (h,W)∧popX h∈parts:=by
 obtain⟨h1,h2⟩:=pop_keep h0;refine⟨⟨hh.lw,hh.lo,hh.hi,fun r hr=>hh.me r (h2 r (List.mem_of_mem_take hr))⟩,?_,hh.me _ (h2 _ (rowA_mem (by omega)))⟩
 show cnt1 W+((popH h).take (h.length-1)).length+1=cnt1 W+h.length;rw [List.length_take,h1];omega
theorem lsO_ok {n P d:Nat} {part:List Int} {parts U:Rows} {s:TS} (hp:POk n part parts) (hP:parts.length=P) (hu:∀ q:Nat,∀ p∈rowA U q,1≤p∧p≤P) (h:LOk P parts d (s.h,s.W)) (h0:0<s.h.length) :
   LOk P parts (d+(urow U part s.h).length) ((lsO part parts U s).h,(lsO part parts U s).W)∧nuS ((lsO part parts U s).h,(lsO part parts U s).W)<nuS (s.h,s.W):=by
 obtain⟨h1,h2,h3⟩:=pop_ok2 h h0;obtain⟨h4,h5⟩:=lsR_ok (row:=urow U part s.h) hP h1 (hu _) _ (Nat.le_refl _);exact⟨h4,by have h5:nuS ((lsO part parts U s).h,(lsO part parts U s).W)≤_:=h5;omega⟩
theorem lsS_stab {n P:Nat} {part:List Int} {parts U:Rows} (hp:POk n part parts) (hP:parts.length=P) (hu:∀ q:Nat,∀ p∈rowA U q,1≤p∧p≤P):∀ (m:Nat) {s:TS} {d:Nat},LOk P parts d (s.h,s.W)→nuS (s.h,s.W)≤m→lsS part parts U m s=lsS part parts U (nuS (s.h,s.W)) s:=by
 intro m
 induction m using Nat.strongRecOn with
 |_ m ih =>
   intro s d h hm
   by_cases h0:0<s.h.length
   ·obtain⟨h1,h2⟩:=lsO_ok hp hP hu h h0;obtain⟨m1,rfl⟩:∃ m1,m=m1+1:=⟨m-1,by omega⟩
    obtain⟨m2,e2⟩:∃ m2,nuS (s.h,s.W)=m2+1:=⟨nuS (s.h,s.W)-1,by omega⟩
    rw [e2,lsS,lsS,if_pos h0,if_pos h0,ih m1 (by omega) h1 (by omega)]
    by_cases e:m2<m1+1
    ·rw [ih m2 e h1 (by omega)]
    ·omega
   ·have hz:∀ k,lsS part parts U k s=s:=fun k=>by
      cases k with
      |zero=>rfl
      |succ k=>rw [lsS,if_neg h0]
    rw [hz,hz]
theorem lsS_go {n P d:Nat} {part:List Int} {parts U:Rows} {s:TS} (hp:POk n part parts) (hP:parts.length=P) (hu:∀ q:Nat,∀ p∈rowA U q,1≤p∧p≤P) (h:LOk P parts d (s.h,s.W)) (h0:0<s.h.length) :
   lsS part parts U (nuS (s.h,s.W)) s=lsS part parts U (nuS ((lsO part parts U s).h,(lsO part parts U s).W)) (lsO part parts U s):=by
 obtain⟨h1,h2⟩:=lsO_ok hp hP hu h h0;obtain⟨m2,e2⟩:∃ m2,nuS (s.h,s.W)=m2+1:=⟨nuS (s.h,s.W)-1,by omega⟩
 rw [e2,lsS,if_pos h0];exact lsS_stab hp hP hu m2 h1 (by omega)
theorem lsS_end {part:List Int} {parts U:Rows} {s:TS} (h0:¬ 0<s.h.length) (k:Nat):lsS part parts U k s=s:=by
 cases k with
 |zero=>rfl
 |succ k=>rw [lsS,if_neg h0]
structure TOk (part:List Int) (parts U:Rows) (P M T:Nat) (F:TS) (s:TS):Prop where
 lok:LOk P parts ((M-nuS (s.h,s.W))*T) (s.h,s.W)
 nu:nuS (s.h,s.W)≤M
 ol:s.out.length+nuS (s.h,s.W)≤M
 go:lsS part parts U (nuS (s.h,s.W)) s=F
theorem TOk.next {n P M T:Nat} {part:List Int} {parts U:Rows} {F s:TS} (hp:POk n part parts) (hP:parts.length=P) (hu:∀ q:Nat,∀ p∈rowA U q,1≤p∧p≤P) (hT:∀ q:Nat,(rowA U q).length≤T) (h:TOk part parts U P M T F s) (h0:0<s.h.length):TOk part parts U P M T F (lsO part parts U s)∧nuS ((lsO part parts U s).h,(lsO part parts U s).W)<nuS (s.h,s.W):=by
 obtain⟨h1,h2⟩:=lsO_ok hp hP hu h.lok h0;refine⟨⟨h1.mono ?_,by have:=h.nu;omega,?_,?_⟩,h2⟩
 ·have e:(urow U part s.h).length≤T:=hT _;have:=h.nu
  calc (M-nuS (s.h,s.W))*T+(urow U part s.h).length≤(M-nuS (s.h,s.W))*T+T:=Nat.add_le_add_left e _
    _=(M-nuS (s.h,s.W)+1)*T:=(Nat.succ_mul ..).symm
    _≤_:=Nat.mul_le_mul_right _ (by omega)
 ·show(s.out++[popX s.h]).length+_≤M;have:=h.ol;rw [List.length_append,List.length_singleton];omega
 ·rw [← lsS_go hp hP hu h.lok h0];exact h.go
theorem TOk.done {P M T:Nat} {part:List Int} {parts U:Rows} {F s:TS} (h:TOk part parts U P M T F s) (h0:¬ 0<s.h.length):s.out=F.out:=by
 rw [← h.go,lsS_end h0]
theorem TOk.mid {n P M T:Nat} {part:List Int} {parts U:Rows} {F s:TS} (hp:POk n part parts) (hP:parts.length=P) (hu:∀ q:Nat,∀ p∈rowA U q,1≤p∧p≤P) (hT:∀ q:Nat,(rowA U q).length≤T) (h:TOk part parts U P M T F s) (h0:0<s.h.length) {k:Nat} (hk:k≤(urow U part s.h).length) :
   LOk P parts (M*T) (lsR parts (urow U part s.h) ((popH s.h).take (s.h.length-1),s.W) k)∧nuS (lsR parts (urow U part s.h) ((popH s.h).take (s.h.length-1),s.W) k)+1≤M:=by
 obtain⟨h1,h2,h3⟩:=pop_ok2 h.lok h0;obtain⟨h4,h5⟩:=lsR_ok (row:=urow U part s.h) hP h1 (hu _) k hk;have hn:=h.nu;refine⟨h4.mono ?_,by omega⟩
 have e:k≤T:=Nat.le_trans hk (hT _)
 calc (M-nuS (s.h,s.W))*T+k≤(M-nuS (s.h,s.W))*T+T:=Nat.add_le_add_left e _
   _=(M-nuS (s.h,s.W)+1)*T:=(Nat.succ_mul ..).symm
   _≤_:=Nat.mul_le_mul_right _ (by omega)
end Go.SX
namespace Go.SX
open Go.XK Go.RowKit
def seI (i:Nat) (row:List Int) (s:List Int×List Int) (k:Nat):List Int×List Int:=if gi s.1 (gi row k)<0 then(s.1.set (gi row k).toNat (gi s.2 i),s.2++[gi row k])else s
def seR (i:Nat) (row:List Int) (s:List Int×List Int):Nat→List Int×List Int
 |0=>s
 |k+1=>seI i row (seR i row s k) k
def seO (out:Rows) (s:List Int×List Int) (i:Nat):List Int×List Int:=if i<s.2.length then seR i (rowA out (gi s.2 i).toNat) s (rowA out (gi s.2 i).toNat).length else s
def seS (out:Rows) (s:List Int×List Int):Nat→List Int×List Int
 |0=>s
 |i+1=>seO out (seS out s i) i
structure SOk (n:Nat) (b w:List Int):Prop where
 lb:b.length=n
 wr:∀ v∈w,0≤v∧v<n
 bw:∀ v:Int,0≤v→v<n→0≤gi b v→v∈w
 wb:∀ v∈w,0≤gi b v
 fo:∀ v∈w,gi b v=v∨w.idxOf (gi b v)<w.idxOf v
def neg (b:List Int):Nat:=b.countP fun x=>decide (x<0)
theorem neg_set {b:List Int} {k:Nat} {x:Int} (h:k<b.length) (h0:b.getD k 0<0) (hx:0≤x):neg (b.set k x)+1=neg b:=by
 induction b generalizing k with
 |nil=>exact absurd h (Nat.not_lt_zero _)
 |cons y b ih =>
   cases k with
   |zero =>
     have h0:y<0:=h0;show neg (x::b)+1=_;unfold neg;rw [List.countP_cons_of_neg (by simp;omega),List.countP_cons_of_pos (by simpa using h0)]
   |succ k =>
     have:=ih (k:=k) (by simpa using h) h0
     show neg (y::b.set k x)+1=_;unfold neg at this ⊢;rw [List.countP_cons,List.countP_cons];omega
theorem idx_app {w:List Int} {x v:Int} (h:v∈w):(w++[x]).idxOf v=w.idxOf v:=by rw [List.idxOf_append,if_pos h]
theorem gi_app {w:List Int} {x:Int} {i:Nat} (h:i<w.length):gi (w++[x]) i=gi w i:=by
 unfold gi;rw [List.getD_eq_getElem?_getD,List.getD_eq_getElem?_getD,List.getElem?_append_left (by simpa using h)]
theorem SOk.add {n:Nat} {b w:List Int} (h:SOk n b w) {x p:Int} (hx:0≤x∧x<n) (h0:gi b x<0) (hp:p∈w):SOk n (b.set x.toNat p) (w++[x]):=by
 have hnx:x ∉ w:=fun hm=>by have:=h.wb x hm;omega
 have hxl:x.toNat<b.length:=by rw [h.lb];omega
 have kg:∀ v:Int,0≤v→gi (b.set x.toNat p) v=if v=x then p else gi b v:=fun v hv=>by
   rw [gi_set]
   by_cases e:v=x
   ·subst e;rw [if_pos ⟨rfl,hxl⟩,if_pos rfl]
   ·rw [if_neg (fun q=>e (by omega)),if_neg e]
 have hpr:=h.wr p hp;refine⟨(List.length_set ..).trans h.lb,fun v hv=>?_,fun v h1 h2 h3=>?_,fun v hv=>?_,fun v hv=>?_⟩
 ·rcases List.mem_append.1 hv with hv|hv
  ·exact h.wr v hv
  ·cases List.mem_singleton.1 hv;exact hx
 ·rw [kg v h1]at h3
  by_cases e:v=x
  ·subst e;exact List.mem_append_right _ (List.mem_singleton.2 rfl)
  ·rw [if_neg e]at h3;exact List.mem_append_left _ (h.bw v h1 h2 h3)
 ·have hv0:0≤v:=by
    rcases List.mem_append.1 hv with hv|hv
    ·exact(h.wr v hv).1
    ·cases List.mem_singleton.1 hv;exact hx.1
  rw [kg v hv0];split
  ·exact hpr.1
  ·rename_i e;rcases List.mem_append.1 hv with hv|hv
   ·exact h.wb v hv
   ·exact absurd (List.mem_singleton.1 hv) e
 ·rcases List.mem_append.1 hv with hv|hv
  ·have hvx:v≠x:=fun e=>hnx (e▸hv)
   rw [kg v (h.wr v hv).1,if_neg hvx];rcases h.fo v hv with q|q
   ·exact .inl q
   ·right
    have hm:gi b v∈w:=by
      have:=List.idxOf_le_length (a:=v) (l:=w);exact List.idxOf_lt_length_iff.1 (by omega)
    rw [idx_app hm,idx_app hv];exact q
  ·cases List.mem_singleton.1 hv;right;rw [kg x hx.1,if_pos rfl,idx_app hp,List.idxOf_append,if_neg hnx];have:=List.idxOf_lt_length_iff.2 hp;omega
theorem seI_ok {n i:Nat} {row:List Int} {s:List Int×List Int} {k:Nat} (h:SOk n s.1 s.2) (hn:neg s.1+s.2.length≤n) (hi:i<s.2.length) (hk:0≤gi row k∧gi row k<n) :
   SOk n (seI i row s k).1 (seI i row s k).2∧neg (seI i row s k).1+(seI i row s k).2.length≤n∧i<(seI i row s k).2.length∧∀ j,j<s.2.length→gi (seI i row s k).2 j=gi s.2 j:=by
 unfold seI;split
 ·rename_i h0;refine⟨h.add hk h0 (gi_mem (by simpa using hi)),?_,?_,fun j hj=>gi_app hj⟩
  ·have hh:=h.wr _ (gi_mem (l:=s.2) (k:=(i:Int)) (by simpa using hi))
   have:=neg_set (b:=s.1) (k:=(gi row k).toNat) (x:=gi s.2 i) (by rw [h.lb];omega) h0 hh.1
   show neg (s.1.set _ _)+(s.2++[gi row k]).length≤n;rw [List.length_append];show neg (s.1.set _ _)+(s.2.length+1)≤n;omega
  ·show i<(s.2++[gi row k]).length;rw [List.length_append];omega
 ·exact⟨h,hn,hi,fun _ _=>rfl⟩
theorem seR_ok {n i:Nat} {row:List Int} {s:List Int×List Int} (h:SOk n s.1 s.2) (hn:neg s.1+s.2.length≤n) (hi:i<s.2.length) (hr:∀ w∈row,0≤w∧w<n):∀ k,k≤row.length →
   SOk n (seR i row s k).1 (seR i row s k).2∧neg (seR i row s k).1+(seR i row s k).2.length≤n∧i<(seR i row s k).2.length∧∀ j,j<s.2.length→gi (seR i row s k).2 j=gi s.2 j
 |0,_=>⟨h,hn,hi,fun _ _=>rfl⟩
 |k+1,hk=>by
   obtain⟨h1,h2,h3,h4⟩:=seR_ok h hn hi hr k (by omega)
   obtain⟨g1,g2,g3,g4⟩:=seI_ok (row:=row) (k:=k) h1 h2 h3 (hr _ (gi_mem (by omega)))
   rw [seR];refine⟨g1,g2,g3,fun j hj=>?_⟩
   have hle:∀ m,s.2.length≤(seR i row s m).2.length:=fun m=>by
     induction m with
     |zero=>exact Nat.le_refl _
     |succ m ih =>
       rw [seR];unfold seI;split
       ·show _≤((seR i row s m).2++[_]).length;rw [List.length_append];omega
       ·exact ih
   rw [g4 j (by have:=hle k;omega),h4 j hj]
theorem seO_ok {n i:Nat} {out:Rows} {s:List Int×List Int} (hx:NxOk out n) (h:SOk n s.1 s.2) (hn:neg s.1+s.2.length≤n):SOk n (seO out s i).1 (seO out s i).2∧neg (seO out s i).1+(seO out s i).2.length≤n:=by
 unfold seO;split
 ·rename_i hi;obtain⟨h1,h2,_⟩:=seR_ok h hn hi (hx.row (gi s.2 i).toNat) _ (Nat.le_refl _);exact⟨h1,h2⟩
 ·exact⟨h,hn⟩
theorem seS_ok {n:Nat} {out:Rows} {s:List Int×List Int} (hx:NxOk out n) (h:SOk n s.1 s.2) (hn:neg s.1+s.2.length≤n):∀ i,SOk n (seS out s i).1 (seS out s i).2∧neg (seS out s i).1+(seS out s i).2.length≤n
 |0=>⟨h,hn⟩
 |i+1=>by
   obtain⟨h1,h2⟩:=seS_ok hx h hn i;exact seO_ok hx h1 h2
theorem seS_stop {out:Rows} {s:List Int×List Int} {i:Nat} (h:¬ i<(seS out s i).2.length):∀ j,seS out s (i+j)=seS out s i
 |0=>rfl
 |j+1=>by
   have ih:=seS_stop h j;show seO out (seS out s (i+j)) (i+j)=_;rw [ih];unfold seO;rw [if_neg (by omega)]
theorem neg_rep (n:Nat):neg (List.replicate n (-1))=n:=by
 unfold neg;rw [List.countP_eq_length.2 (fun a ha=>by rw [(List.mem_replicate.1 ha).2];decide),List.length_replicate]
theorem gi_repm {n:Nat} {v:Int} (h:v.toNat<n):gi (List.replicate n (-1)) v = -1:=by
 unfold gi;rw [List.getD_eq_getElem?_getD,List.getElem?_replicate,if_pos h];rfl
theorem s0_ok {n:Nat} {r:Int} (hr:0≤r∧r<n):SOk n ((List.replicate n (-1)).set r.toNat r) [r]∧neg ((List.replicate n (-1)).set r.toNat r)+[r].length≤n:=by
 have hl:r.toNat<(List.replicate n (-1:Int)).length:=by rw [List.length_replicate];omega
 have kg:∀ v:Int,0≤v→v<n→gi ((List.replicate n (-1)).set r.toNat r) v=if v=r then r else -1:=fun v hv h2=>by
   rw [gi_set]
   by_cases e:v=r
   ·subst e;rw [if_pos ⟨rfl,hl⟩,if_pos rfl]
   ·rw [if_neg (fun q=>e (by omega)),if_neg e,gi_repm (by omega)]
 refine⟨⟨by rw [List.length_set,List.length_replicate],fun v hv=>by cases List.mem_singleton.1 hv;exact hr,fun v h1 h2 h3=>?_,fun v hv=>?_,fun v hv=>?_⟩,?_⟩
 ·rw [kg v h1 h2]at h3;split at h3
  ·rename_i e;subst e;exact List.mem_singleton.2 rfl
  ·omega
 ·cases List.mem_singleton.1 hv;rw [kg r hr.1 hr.2,if_pos rfl];exact hr.1
 ·cases List.mem_singleton.1 hv;left;rw [kg r hr.1 hr.2,if_pos rfl]
 ·have:=neg_set (b:=List.replicate n (-1)) (k:=r.toNat) (x:=r) hl (by show gi (List.replicate n (-1)) r<0;rw [gi_repm (by omega)];decide) hr.1
  rw [neg_rep]at this;show _+1≤n;omega
def trT (b:List Int):Nat→Int→List Int
 |0,_=>[]
 |m+1,v=>if gi b v=v then []else gi b v::trT b m (gi b v)
def trackS (b:List Int) (to:Int):List Int:=if gi b to<0 then []else(to::trT b b.length to).reverse
theorem trT_stab {n:Nat} {b w:List Int} (h:SOk n b w):∀ (m:Nat) {v:Int},v∈w→w.idxOf v≤m→trT b m v=trT b (w.idxOf v) v:=by
 intro m
 induction m using Nat.strongRecOn with
 |_ m ih =>
   intro v hv hm;rcases h.fo v hv with q|q
   ·have hz:∀ k,trT b k v=[]:=fun k=>by
      cases k with
      |zero=>rfl
      |succ k=>rw [trT,if_pos q]
    rw [hz,hz]
   ·have hgm:gi b v∈w:=by
      have:=List.idxOf_le_length (a:=v) (l:=w);exact List.idxOf_lt_length_iff.1 (by omega)
    have hne:gi b v≠v:=fun e=>by rw [e]at q;omega
    obtain⟨m1,rfl⟩:∃ m1,m=m1+1:=⟨m-1,by omega⟩
    obtain⟨m2,e2⟩:∃ m2,w.idxOf v=m2+1:=⟨w.idxOf v-1,by omega⟩
    rw [e2,trT,trT,if_neg hne,if_neg hne,ih m1 (by omega) hgm (by omega)]
    by_cases e:m2<m1+1
    ·rw [ih m2 e hgm (by omega)]
    ·omega
theorem trT_end {b:List Int} {v:Int} (q:gi b v=v) (k:Nat):trT b k v=[]:=by
 cases k with
 |zero=>rfl
 |succ k=>rw [trT,if_pos q]
theorem trT_go {n:Nat} {b w:List Int} (h:SOk n b w) {v:Int} (hv:v∈w) (q:¬ gi b v=v):trT b (w.idxOf v) v=gi b v::trT b (w.idxOf (gi b v)) (gi b v)∧gi b v∈w∧w.idxOf (gi b v)<w.idxOf v:=by
 rcases h.fo v hv with q'|q'
 ·exact absurd q' q
 ·have hgm:gi b v∈w:=by
    have:=List.idxOf_le_length (a:=v) (l:=w);exact List.idxOf_lt_length_iff.1 (by omega)
  refine⟨?_,hgm,q'⟩;obtain⟨m2,e2⟩:∃ m2,w.idxOf v=m2+1:=⟨w.idxOf v-1,by omega⟩
  rw [e2,trT,if_neg q,trT_stab h m2 hgm (by omega)]
end Go.SX
namespace Go.SX
open Go.XK Go.RowKit
abbrev c32:Int:=((UInt64.ofNat 32).toNat:Int)
def mulHi (x y:UInt64):UInt64:=shr64 x c32*shr64 y c32+shr64 (shr64 x c32*(y &&& UInt64.ofNat 4294967295)+shr64 ((x &&& UInt64.ofNat 4294967295)*(y &&& UInt64.ofNat 4294967295)) c32) c32+shr64 ((shr64 x c32*(y &&& UInt64.ofNat 4294967295)+shr64 ((x &&& UInt64.ofNat 4294967295)*(y &&& UInt64.ofNat 4294967295)) c32 &&& UInt64.ofNat 4294967295)+(x &&& UInt64.ofNat 4294967295)*shr64 y c32) c32
theorem mulHi_one {n:Nat} (h:n<4294967296):mulHi (UInt64.ofInt 1) (UInt64.ofInt n)=UInt64.ofNat 0:=by
 have e1:UInt64.ofInt 1=UInt64.ofNat 1:=rfl
 have e2:UInt64.ofInt (n:Int)=UInt64.ofNat n:=by
   apply UInt64.toNat.inj;have:=ofInt64 (n:Int);rw [UInt64.toNat_ofNat_of_lt' (by show n<2 ^ 64;omega)]
   omega
 rw [e1,e2];have s1:shr64 (UInt64.ofNat 1) 32=UInt64.ofNat 0:=by decide
 have m1:UInt64.ofNat 1 &&& UInt64.ofNat 4294967295=UInt64.ofNat 1:=by decide
 have tn:(UInt64.ofNat n).toNat=n:=UInt64.toNat_ofNat_of_lt' (by show n<2 ^ 64;omega)
 have s2:shr64 (UInt64.ofNat n) 32=UInt64.ofNat 0:=by
   unfold shr64;rw [tn];show UInt64.ofNat (n >>> 32)=_;rw [Nat.shiftRight_eq_div_pow,Nat.div_eq_of_lt (by exact h)]
 have m2:UInt64.ofNat n &&& UInt64.ofNat 4294967295=UInt64.ofNat n:=by
   apply UInt64.toNat.inj;rw [UInt64.toNat_and,tn];show n &&& (2 ^ 32-1)=n;rw [Nat.and_two_pow_sub_one_eq_mod];omega
 have z1:∀ x:UInt64,UInt64.ofNat 0*x=UInt64.ofNat 0:=fun x=>by show 0*x=0;exact UInt64.zero_mul
 have z2:∀ x:UInt64,UInt64.ofNat 0+x=x:=fun x=>UInt64.zero_add _
 have z3:∀ x:UInt64,x+UInt64.ofNat 0=x:=fun x=>UInt64.add_zero _
 have z4:∀ x:UInt64,x*UInt64.ofNat 0=UInt64.ofNat 0:=fun x=>by show x*0=0;exact UInt64.mul_zero
 have o1:∀ x:UInt64,UInt64.ofNat 1*x=x:=fun x=>by show 1*x=x;exact UInt64.one_mul x
 have s0:shr64 (UInt64.ofNat 0) 32=UInt64.ofNat 0:=by decide
 have m0:UInt64.ofNat 0 &&& UInt64.ofNat 4294967295=UInt64.ofNat 0:=by decide
 unfold mulHi;show shr64 _ 32*shr64 _ 32+shr64 (shr64 _ 32*_+shr64 _ 32) 32+shr64 ((shr64 _ 32*_+shr64 _ 32 &&& _)+_*shr64 _ 32) 32=_;rw [s1,m1,m2,s2,o1,o1];simp only [z1,z2,z3,z4,s2,s0,m0]
theorem mulLo_one {n:Nat} (h:n<4294967296):UInt64.ofInt 1*UInt64.ofInt n=UInt64.ofInt n:=by
 show 1*UInt64.ofInt n=_;exact UInt64.one_mul _
theorem ofInt_nat {n:Nat} (h:n<4294967296):(UInt64.ofInt (n:Int)).toNat=n:=by
 have:=ofInt64 (n:Int);omega
def repA (k n:Nat):List Int:=List.replicate k (-1)++List.replicate (n-k) 0
theorem repA_len {k n:Nat} (h:k≤n):(repA k n).length=n:=by unfold repA;simp;omega
theorem repA_step {k n:Nat} (h:k≤n):cpy (repA k n) k n ((repA k n).take k)=repA (k+min (n-k) k) n:=by
 have e1:(repA k n).take k=List.replicate k (-1):=by unfold repA;rw [List.take_left' (List.length_replicate ..)]
 unfold cpy;rw [e1,List.length_replicate];unfold repA;rw [List.take_replicate,List.drop_append,List.drop_replicate,List.drop_replicate,List.length_replicate];rw [← List.replicate_append_replicate (n:=k) (m:=min (n-k) k),show k-(k+min (n-k) k)=0 by omega,List.replicate_zero,List.nil_append]
 rw [show n-k-(k+min (n-k) k-k)=n-(k+min (n-k) k)by omega]
theorem repA_end (n:Nat):repA n n=List.replicate n (-1):=by unfold repA;rw [Nat.sub_self];simp
theorem repA_start (n:Nat):cpy (List.replicate n (0:Int)) 0 n [-1]=repA (min n 1) n:=by
 unfold cpy repA
 cases n with
 |zero=>rfl
 |succ n=>simp [List.replicate_succ]
set_option maxHeartbeats 2000000 in
@[reducible] def a_Cz:List SV→PR
 |[.w64 x,.w64 y]=>.ok (.tup [.w64 (mulHi x y),.w64 (x*y)])
 |_=>.no
set_option maxHeartbeats 2000000 in
theorem o_EN:FOK 160 a_Cz:=by
 intro args m ids vs hG hm hv;unfold a_Cz;split
 ·rename_i x y;refine calls_fact (DB:=[]) (IL:=[]) (WL:=[]) (fn:=Proofs.Tryz.f160) rfl rfl rfl rfl rfl rfl (fun hk=>?_) m ids vs hG hm hv
  clear hG hm hv
  repeat' (refine bc_ fun g_=>?_;(conv at g_=>(arg 1;whnf));refine g_ ?_;clear g_;first|((fail_if_success (apply cH_));(fail_if_success (apply uR_));apply Or.inl)|(apply rn_;exact rm_;exact me_)|(apply mt_;exact me_)|(apply ob0_;first|exact obc_)|(apply And.intro<;>(intro h;have hc:=h;try simp only [bs]at h))|(intro h;(try (unfold und at h;conv at h=>whnf));try simp only [bs]at h)|(apply wr0_;exact wrc_)|(apply wg0_;exact wgc_))
  all_goals (conv=>whnf)
  all_goals exact me_
 ·trivial
noncomputable def F_BN:Fact E0:=⟨160,a_Cz,by unfold FnOK;kernel_rfl,o_EN⟩
set_option maxHeartbeats 2000000 in
@[reducible] def a_Cy:List SV→PR
 |[.w64 x,.w64 y]=>.ok (.tup [.w64 (mulHi x y),.w64 (x*y)])
 |_=>.no
set_option maxHeartbeats 2000000 in
theorem o_EM:FOK 157 a_Cy:=by
 intro args m ids vs hG hm hv;unfold a_Cy;split
 ·rename_i x y;refine calls_fact (DB:=[F_BN]) (IL:=[]) (WL:=[]) (fn:=Proofs.Tryz.f157) rfl rfl rfl rfl rfl rfl (fun hk=>?_) m ids vs hG hm hv
  clear hG hm hv
  repeat' (refine bc_ fun g_=>?_;(conv at g_=>(arg 1;whnf));refine g_ ?_;clear g_;first|((fail_if_success (apply cH_));(fail_if_success (apply uR_));apply Or.inl)|(apply rn_;exact rm_;exact me_)|(apply mt_;exact me_)|(apply ob0_;first|exact obc_|(exact of_decide_eq_true rfl))|(apply And.intro<;>(intro h;have hc:=h;(try exact nc1_ hc);(try exact nc2_ hc);try simp only [bs]at h))|(intro h;(try (unfold und at h;conv at h=>whnf));try simp only [bs]at h)|(apply wr0_;exact wrc_)|(apply wg0_;exact wgc_))
  all_goals (conv=>whnf)
  all_goals exact me_
 ·trivial
noncomputable def F_BM:Fact E0:=⟨157,a_Cy,by unfold FnOK;kernel_rfl,o_EM⟩
set_option maxHeartbeats 4000000 in
theorem hc_rep {z:Option Bool} {n:Nat} (hn:n≤262144):HC E0 145 1 [.osl 0,.i (n:Int)] [(0,.arr 3 z 0 [(-1:Int)])] (fun s H n_=>s=.osl 1∧H=[(0,.arr 3 z 0 [(-1:Int)]),(1,.arr 3 none 0 (List.replicate (α:=Int) n (-1)))]∧n_=2):=by
 refine calls_hc (DB:=[F_BM]) (IL:=[]) (WL:=[]) (fn:=Proofs.Tryz.f145) rfl rfl rfl rfl (by unfold FnOK;kernel_rfl) (fun hk=>?_)
 simp only [know]at hk;have hd0:decide ((n:Int)<0)=false:=decide_eq_false (by omega)
 have q1:=mulHi_one (n:=n) (by omega)
 have q2:=mulLo_one (n:=n) (by omega)
 have q3:=ofInt_nat (n:=n) (by omega)
 have q1':mulHi (UInt64.ofInt (List.length (α:=TabT 0) [(-1:Int)]:Nat)) (UInt64.ofInt n)=UInt64.ofNat 0:=q1;have q2':UInt64.ofInt (List.length (α:=TabT 0) [(-1:Int)]:Nat)*UInt64.ofInt n=UInt64.ofInt n:=q2
 have hd1:(decide (UInt64.ofNat 0<mulHi (UInt64.ofInt (List.length (α:=TabT 0) [(-1:Int)]:Nat)) (UInt64.ofInt n))||decide (UInt64.ofNat 9223372036854775807<UInt64.ofInt (List.length (α:=TabT 0) [(-1:Int)]:Nat)*UInt64.ofInt n))=false:=by
   rw [q1',q2',Bool.or_eq_false_iff];refine⟨by decide,decide_eq_false fun h=>?_⟩
   have h2:(UInt64.ofNat 9223372036854775807).toNat<(UInt64.ofInt n).toNat:=UInt64.lt_iff_toNat_lt.1 h;rw [q3]at h2;have h3:(UInt64.ofNat 9223372036854775807).toNat=9223372036854775807:=rfl;omega
 have hW:IntKind.i64.wrap ((UInt64.ofInt (List.length (α:=TabT 0) [(-1:Int)]:Nat)*UInt64.ofInt n).toNat:Int)=n:=by
   rw [q2',q3];exact wrap_id ⟨by omega,by omega⟩
 repeat' (refine bc_ fun g_=>?_;(conv at g_=>(arg 1;whnf));refine g_ ?_;clear g_;first|(intro bq;cases bq;rotate_left;(focus (intro hbq;exact absurd (hbq rfl) (by omega)));intro _)|((fail_if_success (apply cH_));(fail_if_success (apply uR_));apply Or.inl)|(apply rn_;exact rm_;exact me_)|(apply mt_;exact me_)|((fail_if_success (fail_if_success (apply Exists.intro)));first|(refine ⟨[1,1,1,1,1,1,1,3,1,1],[0,1,2,3,4,5,6,7,8,9],(by decide +kernel),?_⟩;(conv=>whnf);(fail_if_success (apply fa_))))|(apply ob0_;first|exact obc_|(exact of_decide_eq_true rfl))|(apply And.intro<;>(intro h;have hc:=h;(try exact nc1_ hc);(try exact nc2_ hc);(try exact nc3_ hc);(try exact nc4_ hc);try simp only [bs]at h))|(intro h;(try (unfold und at h;conv at h=>whnf));try simp only [bs]at h)|(apply wr0_;exact wrc_)|(apply wg0_;exact wgc_))
 all_goals (conv=>whnf)
 rw [hW];have hmk:0≤(n:Int)∧(n:Int)=n∧(n:Int)*(8:Nat)≤140737488355328:=⟨by omega,rfl,by omega⟩
 repeat' (refine bc_ fun g_=>?_;(conv at g_=>(arg 1;whnf));refine g_ ?_;clear g_;first|(intro bq;cases bq;rotate_left;(focus (intro hbq;exact absurd (hbq rfl) (by omega)));intro _)|((fail_if_success (apply cH_));(fail_if_success (apply uR_));apply Or.inl)|(apply rn_;exact rm_;exact me_)|(apply mt_;exact me_)|((fail_if_success (fail_if_success (apply Exists.intro)));first|(refine ⟨[1,1,1,1,1,1,1,3,1,1],[0,1,2,3,4,5,6,7,8,9],(by decide +kernel),?_⟩;(conv=>whnf);(fail_if_success (apply fa_))))|(apply ob0_;first|(exact hmk)|exact obc_|(exact of_decide_eq_true rfl))|(apply And.intro<;>(intro h;have hc:=h;(try exact nc1_ hc);(try exact nc2_ hc);(try exact nc3_ hc);(try exact nc4_ hc);try simp only [bs]at h))|(intro h;(try (unfold und at h;conv at h=>whnf));try simp only [bs]at h)|(apply wr0_;exact wrc_)|(apply wg0_;exact wgc_))
 all_goals (conv=>whnf)
 refine Or.inr (Or.inr ⟨[],[8],[],[1],[7],[],?_⟩);conv=>whnf
 refine⟨fun(s:Int×Unit) (t:List (TabT 0)×Unit)=>∃ k:Nat,s.1=k∧k≤n∧(k=0→n=0)∧t.1=repA k n,fun(s:Int×Unit) _=>(n-s.1).toNat,?_⟩
 conv=>whnf
 refine Ini.mk ⟨min n 1,?_,by omega,by omega,?_⟩ me_ ?_
 ·show((min ((List.replicate (α:=Int) (n:Int).toNat 0).length-0) 1:Nat):Int)=(min n 1:Nat);rw [List.length_replicate,Nat.sub_zero,Int.toNat_natCast]
 ·show cpy (List.replicate (α:=Int) (n:Int).toNat 0) 0 (List.replicate (α:=Int) (n:Int).toNat 0).length [-1]=_;rw [List.length_replicate,Int.toNat_natCast];exact repA_start n
 rintro⟨(k:Int),_⟩ ⟨(t:List (TabT 0)),_⟩ ⟨k,hk1,hkn,hk0,hS⟩;replace hk1:_=(k:Int):=hk1;subst hk1;replace hS:t=repA k n:=hS;subst hS;have hl:List.length (α:=TabT 0) (repA k n)=n:=repA_len hkn;refine gK fun K hK=>?_
 by_cases hkl:k<n
 ·have hd2:decide ((k:Int)<(List.length (α:=TabT 0) (repA k n):Nat))=true:=decide_eq_true (by omega)
  have hT:List.take ((k:Int)-0).toNat (List.drop (Int.toNat 0) (repA k n))=(repA k n).take k:=by
    rw [show((k:Int)-0).toNat=k by omega]
    rfl
  have hL:((List.length (repA k n):Nat):Int).toNat=n:=by rw [repA_len hkn];rfl
  have hE:(k:Int)+((min (((List.length (repA k n):Nat):Int).toNat-(k:Int).toNat) (List.length (List.take ((k:Int)-0).toNat (List.drop (Int.toNat 0) (repA k n)))):Nat):Int)=((k+min (n-k) k:Nat):Int):=by
    rw [hT,hL,List.length_take,repA_len hkn,Int.toNat_natCast,Nat.min_eq_left hkn];omega
  have hC:cpy (repA k n) (k:Int).toNat ((List.length (repA k n):Nat):Int).toNat (List.take ((k:Int)-0).toNat (List.drop (Int.toNat 0) (repA k n)))=repA (k+min (n-k) k) n:=by
    rw [hT,hL];exact repA_step hkn
  have hM:((n:Int)-((k:Int)+((min (((List.length (repA k n):Nat):Int).toNat-(k:Int).toNat) (List.length (List.take ((k:Int)-0).toNat (List.drop (Int.toNat 0) (repA k n)))):Nat):Int))).toNat<((n:Int)-(k:Int)).toNat:=by
    rw [hE];omega
  repeat' ((try refine gKe (by assumption) ?_);refine bc_ fun g_=>?_;(conv at g_=>(arg 1;whnf));refine g_ ?_;clear g_;first|(intro bq;cases bq;rotate_left;(focus (intro hbq;exact absurd (hbq rfl) (by omega)));intro _)|((fail_if_success (apply cH_));(fail_if_success (apply uR_));apply Or.inl)|(apply rn_;exact rm_;exact me_)|(apply mt_;exact me_)|((fail_if_success (fail_if_success (apply Exists.intro)));first|(refine ⟨[1,1,1,1,1,1,1,3,1,1],[0,1,2,3,4,5,6,7,8,9],(by decide +kernel),?_⟩;(conv=>whnf);(fail_if_success (apply fa_))))|(apply ob0_;first|exact obc_|(exact of_decide_eq_true rfl))|(apply And.intro<;>(intro h;have hc:=h;(try exact nc1_ hc);(try exact nc2_ hc);(try exact nc3_ hc);(try exact nc4_ hc);try simp only [bs]at h))|(intro h;(try (unfold und at h;conv at h=>whnf));try simp only [bs]at h)|(apply wr0_;exact wrc_)|(apply wg0_;exact wgc_)|refine gKe (by assumption) ?_)
  all_goals ((try refine gKe (by assumption) ?_);(conv=>whnf))
  exact Rnd.mk ⟨k+min (n-k) k,hE,by omega,by omega,hC⟩ hM me_
 have hd2:decide ((k:Int)<(List.length (α:=TabT 0) (repA k n):Nat))=false:=decide_eq_false (by omega)
 repeat' ((try refine gKe (by assumption) ?_);refine bc_ fun g_=>?_;(conv at g_=>(arg 1;whnf));refine g_ ?_;clear g_;first|(intro bq;cases bq;rotate_left;(focus (intro hbq;exact absurd (hbq rfl) (by omega)));intro _)|((fail_if_success (apply cH_));(fail_if_success (apply uR_));apply Or.inl)|(apply rn_;exact rm_;exact me_)|(apply mt_;exact me_)|((fail_if_success (fail_if_success (apply Exists.intro)));first|(refine ⟨[1,1,1,1,1,1,1,3,1,1],[0,1,2,3,4,5,6,7,8,9],(by decide +kernel),?_⟩;(conv=>whnf);(fail_if_success (apply fa_))))|(apply ob0_;first|exact obc_|(exact of_decide_eq_true rfl))|(apply And.intro<;>(intro h;have hc:=h;(try exact nc1_ hc);(try exact nc2_ hc);(try exact nc3_ hc);(try exact nc4_ hc);try simp only [bs]at h))|(intro h;(try (unfold und at h;conv at h=>whnf));try simp only [bs]at h)|(apply wr0_;exact wrc_)|(apply wg0_;exact wgc_)|refine gKe (by assumption) ?_)
 all_goals ((try refine gKe (by assumption) ?_);(conv=>whnf))
 have ek:k=n:=by omega
 subst ek;refine⟨[],[],_,_,[1],⟨rfl,rfl,rfl⟩,?_⟩
 conv=>whnf
 refine bc_ fun g_=>?_;(conv at g_=>(arg 1;whnf));refine g_ ?_;clear g_;repeat' (first|((with_reducible apply And.intro)<;>(first|(with_reducible refine leS_q ?_;apply rfl)|(with_reducible refine leH_rf ?_;apply rfl)|(refine bc_ fun g_=>?_;(conv at g_=>(arg 1;whnf));refine g_ ?_;clear g_)))|(with_reducible apply trivial)|apply rfl|apply(Or.inl rfl)|apply(Or.inr rfl)|apply(Or.inr (Or.inl rfl))|apply trivial|(apply And.intro<;>(refine bc_ fun g_=>?_;(conv at g_=>(arg 1;whnf));refine g_ ?_;clear g_)))
 (first|exact eqL_of (repA_end k)|exact(repA_end k))
end Go.SX
namespace Go.SX
open Go.XK Go.RowKit
theorem gr_ok {n:Int} {arcs:List TArc} (h:gRight n arcs=true):gOk n arcs:=by
 unfold gRight at h;simp only [Bool.and_eq_true,decide_eq_true_eq,Bool.not_eq_true']at h;refine⟨h.1.1,h.1.2,fun k hk=>?_⟩
 have h2:=List.any_eq_false.1 h.2 k (List.mem_range.2 hk);have h2:arcBad n (arcA arcs k)≠true:=h2;unfold arcBad at h2
 cases hA:(decide (0≤(arcA arcs k).From)&&decide ((arcA arcs k).From<n))with
 |false=>rw [hA]at h2;exact absurd rfl h2
 |true =>
   rw [hA]at h2
   cases hB:(decide (0≤(arcA arcs k).To)&&decide ((arcA arcs k).To<n))with
   |false=>rw [hB]at h2;exact absurd rfl h2
   |true =>
     simp only [Bool.and_eq_true,decide_eq_true_eq]at hA hB;exact⟨hA.1,hA.2,hB.1,hB.2⟩
def RwOk (n:Int) (o:Rows):Prop:=∀ v,∀ w∈rowA o v,0≤w∧w<n
theorem nxA_ok {n:Int} {arcs:List TArc} (h:gOk n arcs):∀ k,k≤arcs.length→RwOk n (nxA n arcs k)
 |0,_=>fun v w hw=>by
   rw [nxA,rep_row]at hw;cases hw
 |k+1,hk=>fun v w hw=>by
   have ih:=nxA_ok h k (by omega)
   rw [nxA,rowA_set]at hw;split at hw
   ·rcases List.mem_append.1 hw with hw|hw
    ·exact ih _ w hw
    ·cases List.mem_singleton.1 hw;obtain⟨_,_,h3,h4⟩:=h.2.2 k (by omega)
     exact⟨h3,h4⟩
   ·exact ih v w hw
theorem nxI_ok {n:Int} {o:Rows} (h:RwOk n o) (j:Nat):RwOk n (nxI o j):=fun v w hw=>by
 have h1:∀ w∈isr (rowA o j),0≤w∧w<n:=fun w hw=>h j w (List.mem_mergeSort.1 hw)
 unfold nxI at hw;rw [rowA_set]at hw;split at hw
 ·have hw:=icomp_mem hw;rw [rowA_set]at hw;split at hw
  ·exact h1 w hw
  ·exact h j w hw
 ·rw [rowA_set]at hw;split at hw
  ·exact h1 w hw
  ·exact h v w hw
theorem nxB_ok {n:Int} {o:Rows} (h:RwOk n o):∀ j,RwOk n (nxB o j)
 |0=>h
 |j+1=>nxI_ok (nxB_ok h j) j
theorem next_ok {n:Int} {arcs:List TArc} (h:gOk n arcs):NxOk (nextS n arcs) n.toNat:=by
 have hr:RwOk n (nextS n arcs):=nxB_ok (nxA_ok h _ (Nat.le_refl _)) _;have hl:(nextS n arcs).length=n.toNat:=(nxB_l _ _).trans (nxA_l n arcs _);have h0:=h.1;refine⟨hl,?_⟩;intro r hrm w hw;obtain⟨i,hi,e⟩:=mem_rowA hrm;rw [← e]at hw;have:=hr i w hw;omega
def tot:Rows→Nat
 |[]=>0
 |r::o=>r.length+tot o
theorem tot_set:∀ {o:Rows} {v:Nat} {l:List Int},v<o.length→tot (o.set v l)+(rowA o v).length=tot o+l.length
 |[],_,_,h=>absurd h (Nat.not_lt_zero _)
 |r::o,0,l,_=>by
   show l.length+tot o+r.length=r.length+tot o+l.length;omega
 |r::o,v+1,l,h=>by
   have ih:=tot_set (o:=o) (v:=v) (l:=l) (by simpa using h)
   show r.length+tot (o.set v l)+(rowA o v).length=r.length+tot o+l.length;omega
theorem tot_rep (n:Nat):tot (List.replicate n [])=0:=by
 induction n with
 |zero=>rfl
 |succ n ih=>rw [List.replicate_succ,tot,ih];rfl
theorem tot_nxA (n:Int) (arcs:List TArc):∀ k,tot (nxA n arcs k)≤k
 |0=>by rw [nxA,tot_rep];exact Nat.le_refl _
 |k+1=>by
   have ih:=tot_nxA n arcs k;rw [nxA]
   by_cases h:(arcA arcs k).From.toNat<(nxA n arcs k).length
   ·have:=tot_set (o:=nxA n arcs k) (l:=rowA (nxA n arcs k) (arcA arcs k).From.toNat++[(arcA arcs k).To]) h;rw [List.length_append]at this;have e:[(arcA arcs k).To].length=1:=rfl;omega
   ·rw [List.set_eq_of_length_le (by omega)]
    omega
theorem tot_nxI (o:Rows) (v:Nat):tot (nxI o v)≤tot o:=by
 by_cases h:v<o.length
 ·rw [nxI_eq h];have:=tot_set (o:=o) (l:=icp (isr (rowA o v))) h;have h1:(icp (isr (rowA o v))).length≤(isr (rowA o v)).length:=Lib.compact_length_le (α:=Int) _;have h2:(isr (rowA o v)).length=(rowA o v).length:=List.length_mergeSort ..;omega
 ·unfold nxI;have e:o.set v (isr (rowA o v))=o:=List.set_eq_of_length_le (by omega)
  rw [e,List.set_eq_of_length_le (by omega)]
  exact Nat.le_refl _
theorem tot_nxB (o:Rows):∀ k,tot (nxB o k)≤tot o
 |0=>Nat.le_refl _
 |k+1=>Nat.le_trans (tot_nxI _ _) (tot_nxB o k)
theorem tot_next (n:Int) (arcs:List TArc):tot (nextS n arcs)≤arcs.length:=Nat.le_trans (tot_nxB _ _) (tot_nxA n arcs _)
theorem tot_take:∀ (o:Rows) (k:Nat),tot (o.take k)≤tot o
 |[],k=>by rw [List.take_nil];exact Nat.le_refl _
 |r::o,0=>Nat.zero_le _
 |r::o,k+1=>by
   have:=tot_take o k;show r.length+tot (o.take k)≤r.length+tot o;omega
theorem tot_take_s:∀ (o:Rows) (k:Nat),k<o.length→tot (o.take (k+1))=tot (o.take k)+(rowA o k).length
 |[],k,h=>absurd h (Nat.not_lt_zero _)
 |r::o,0,_=>by
   show r.length+tot []=tot []+r.length;omega
 |r::o,k+1,h=>by
   have:=tot_take_s o k (by simpa using h)
   show r.length+tot (o.take (k+1))=r.length+tot (o.take k)+(rowA o k).length;omega
theorem wuS_tot {n P:Nat} {part:List Int} {nx parts:Rows} (hx:NxOk nx n) (hp:POk n part parts) (hP:parts.length=P):∀ v,v≤n→WOk P (tot (nx.take v)) (wuS part nx (wu0 P) v)
 |0,_=>wu0_ok P
 |v+1,hv=>by
   have ih:=wuS_tot hx hp hP v (by omega)
   rw [wuS,tot_take_s nx v (by rw [hx.len];omega)]
   exact wuR_ok (n:=n) (row:=rowA nx v) hp hP ih (by omega) (hx.row v) _ (Nat.le_refl _)
end Go.SX
