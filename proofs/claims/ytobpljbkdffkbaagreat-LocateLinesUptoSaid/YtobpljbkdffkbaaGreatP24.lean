/- A part of the proof (texts B41, B60). -/
import Derived.Test.YtobpljbkdffkbaaGreatP12
import Derived.Test.YtobpljbkdffkbaaGreatP16
import Derived.Test.YtobpljbkdffkbaaGreatP22
import Derived.Test.YtobpljbkdffkbaaGreatP23
set_option linter.all false
set_option maxRecDepth 100000
namespace Go.SX
open Go.XK Go.RowKit
abbrev TVf:=(List (TabT 12)×Unit×Unit×Unit×Unit×Unit×Unit)×(List (TabT 0)×(List (TabT 0)×(List (TabT 0)×(List (TabT 0)×(List (TabT 12)×((Int×Unit)×Unit))))))
def fsOf (t:TVf):FS:=⟨t.2.1,t.2.2.1,t.2.2.2.1,t.2.2.2.2.1,t.2.2.2.2.2.1,t.2.2.2.2.2.2.1.1⟩
theorem hc_hpop2 {z:Option Bool} {l:List (TabT 12)} (h0:0<List.length (α:=TabT 12) l) (hb:List.length (α:=TabT 12) l≤262144) (hR:NE l):HC E0 141 2 [.ifc 200 (.loc 0 0)] [(0,.row 201 [.osl 1]),(1,.arr 25 z 12 l)] (fun s H n=>s=.ifc 25 (.lst none 0 (popX l))∧H=[(0,.row 201 [.osl 2]),(2,.arr 25 none 12 (List.take (List.length (α:=TabT 12) l-1) (popH l)))]∧n=3):=by
 have h:=hc_hpop (z:=z) h0 hb hR;have e:List.length (α:=TabT 12) (popH l)=List.length (α:=TabT 12) l:=(pop_keep h0).1;have e2:((List.length (α:=TabT 12) l:Int)-1).toNat=List.length (α:=TabT 12) l-1:=by omega
 rw [e,e2]at h;exact h
set_option maxHeartbeats 40000000 in
@[reducible] def a_Bt:List SV→PR
 |[.i n,.lst z 39 arcs]=>.ok (.lst none 12 (partsS n arcs))
 |_=>.no
set_option maxHeartbeats 40000000 in
theorem o_DH:FOK 120 a_Bt:=by
 intro args m ids vs hG hm hv;unfold a_Bt;split
 ·rename_i n z arcs;refine calls_fact (DB:=[F_AF,F_AH]) (IL:=[I_BW]) (WL:=[]) (fn:=Proofs.Tryz.f120) rfl rfl rfl rfl rfl rfl (fun hk=>?_) m ids vs hG hm hv
  clear hG hm hv;simp only [know]at hk
  repeat' (refine bc_ fun g_=>?_;(conv at g_=>(arg 1;whnf));refine g_ ?_;clear g_;first|(intro bq;cases bq;rotate_left;(focus (intro hbq;exact absurd (hbq rfl) (by omega)));intro _)|((fail_if_success (apply cH_));(fail_if_success (apply uR_));(fail_if_success (apply jR_));apply Or.inl)|(apply rn_;exact rm_;exact me_)|(apply mt_;exact me_)|(apply ob0_;first|exact obc_|(exact of_decide_eq_true rfl))|(apply And.intro<;>(intro h;have hc:=h;(try exact nc1_ hc);(try exact nc2_ hc);try simp only [bs]at h))|(intro h;(try (unfold und at h;conv at h=>whnf));try simp only [bs]at h)|(apply wr0_;exact wrc_)|(apply wg0_;exact wgc_))
  all_goals (conv=>whnf)
  ·exact⟨Or.inl rfl,(congrArg (fun b=>bif b then partsOf n.toNat (nextS n arcs)else []) (by assumption)).trans (cond_false _ _)⟩
  have hgr:gRight n arcs=true:=by assumption
  have hgo:=gr_ok hgr;have hn0:0≤n:=hgo.1;have hn1:n≤262144:=hgo.2.1;have hmk:0≤n∧n=n∧n*(8:Nat)≤140737488355328:=⟨hn0,rfl,by omega⟩
  refine Or.inr (Or.inl ⟨Unit,4,[],[0],fun _=>[(5,.loc 0 0)],fun _=>[(0,.row 198 [.lst none 12 (nextS n arcs),.osl 1,.osl 2,.v (.slice none 0 0),.osl 3,.v (.slice none 0 0)]),(1,.arr 3 none 0 (List.replicate (α:=TabT 0) n.toNat (0:Int))),(2,.arr 3 none 0 (List.replicate (α:=TabT 0) n.toNat (0:Int))),(3,.arr 3 none 0 (List.replicate (α:=TabT 0) n.toNat (0:Int)))],[],fun _=>True,?_,fun _ _=>?_⟩)
  ·conv=>whnf
   refine Or.inr (Or.inr (Exists.intro [1,1,2,1,2,1,2,1,2,1,2,3] (Exists.intro [⟨6,#[true,true,false,true,false,true,false,true,false,false,false,false],0,⟨[(0,.i n),(1,.lst z 39 arcs),(27,.i n),(28,.lst z 39 arcs),(30,.i n),(32,.i n),(34,.i n)],[],[],[],0,0⟩,[(2,.jmp 0),(4,.jmp 1),(6,.jmp 2),(8,.jmp 3),(10,.jmp 4)]⟩,
  ⟨5,#[true,true,true,true,false,true,false,true,false,false,false,false],0,⟨[(0,.i n),(1,.lst z 39 arcs),(27,.i n),(28,.lst z 39 arcs),(30,.i n),(32,.i n),(34,.i n),(29,.lst none 12 (nextS n arcs))],[],[],[],0,0⟩,[(4,.jmp 4),(6,.jmp 5),(8,.jmp 6),(10,.jmp 7)]⟩,
  ⟨5,#[true,true,false,true,true,true,false,true,false,false,false,false],0,⟨[(0,.i n),(1,.lst z 39 arcs),(27,.i n),(28,.lst z 39 arcs),(30,.i n),(32,.i n),(34,.i n),(31,.osl 0)],[],[],[(0,.arr 3 none 0 (List.replicate (α:=TabT 0) n.toNat (0:Int)))],1,0⟩,[(2,.jmp 3),(6,.jmp 7),(8,.jmp 8),(10,.jmp 9)]⟩,
  ⟨5,#[true,true,false,true,false,true,true,true,false,false,false,false],0,⟨[(0,.i n),(1,.lst z 39 arcs),(27,.i n),(28,.lst z 39 arcs),(30,.i n),(32,.i n),(34,.i n),(33,.osl 0)],[],[],[(0,.arr 3 none 0 (List.replicate (α:=TabT 0) n.toNat (0:Int)))],1,0⟩,[(2,.jmp 3),(4,.jmp 6),(8,.jmp 9),(10,.jmp 10)]⟩,
  ⟨5,#[true,true,false,true,false,true,false,true,true,false,false,false],0,⟨[(0,.i n),(1,.lst z 39 arcs),(27,.i n),(28,.lst z 39 arcs),(30,.i n),(32,.i n),(34,.i n),(35,.osl 0)],[],[],[(0,.arr 3 none 0 (List.replicate (α:=TabT 0) n.toNat (0:Int)))],1,0⟩,[(2,.jmp 3),(4,.jmp 6),(6,.jmp 8),(10,.jmp 10)]⟩,
  ⟨5,#[true,true,false,true,false,true,false,true,false,false,true,false],0,⟨[(0,.i n),(1,.lst z 39 arcs),(27,.i n),(28,.lst z 39 arcs),(30,.i n),(32,.i n),(34,.i n),(5,.loc 0 0)],[],[],[(0,.row 198 [.v (.slice none 0 0),.v (.slice none 0 0),.v (.slice none 0 0),.v (.slice none 0 0),.v (.slice none 0 0),.v (.slice none 0 0)])],1,0⟩,[(2,.jmp 3),(4,.jmp 6),(6,.jmp 8),(8,.jmp 9)]⟩,
  ⟨4,#[true,true,true,true,true,true,false,true,false,false,false,false],0,⟨[(0,.i n),(1,.lst z 39 arcs),(27,.i n),(28,.lst z 39 arcs),(30,.i n),(32,.i n),(34,.i n),(29,.lst none 12 (nextS n arcs)),(31,.osl 0)],[],[],[(0,.arr 3 none 0 (List.replicate (α:=TabT 0) n.toNat (0:Int)))],1,0⟩,[(6,.jmp 9),(8,.jmp 10),(10,.jmp 11)]⟩,
  ⟨4,#[true,true,true,true,false,true,true,true,false,false,false,false],0,⟨[(0,.i n),(1,.lst z 39 arcs),(27,.i n),(28,.lst z 39 arcs),(30,.i n),(32,.i n),(34,.i n),(29,.lst none 12 (nextS n arcs)),(33,.osl 0)],[],[],[(0,.arr 3 none 0 (List.replicate (α:=TabT 0) n.toNat (0:Int)))],1,0⟩,[(4,.jmp 8),(8,.jmp 11),(10,.jmp 12)]⟩,
  ⟨4,#[true,true,true,true,false,true,false,true,true,false,false,false],0,⟨[(0,.i n),(1,.lst z 39 arcs),(27,.i n),(28,.lst z 39 arcs),(30,.i n),(32,.i n),(34,.i n),(29,.lst none 12 (nextS n arcs)),(35,.osl 0)],[],[],[(0,.arr 3 none 0 (List.replicate (α:=TabT 0) n.toNat (0:Int)))],1,0⟩,[(4,.jmp 8),(6,.jmp 10),(10,.jmp 12)]⟩,
  ⟨4,#[true,true,true,true,false,true,false,true,false,false,true,false],0,⟨[(0,.i n),(1,.lst z 39 arcs),(27,.i n),(28,.lst z 39 arcs),(30,.i n),(32,.i n),(34,.i n),(29,.lst none 12 (nextS n arcs)),(5,.loc 0 0)],[],[],[(0,.row 198 [.v (.slice none 0 0),.v (.slice none 0 0),.v (.slice none 0 0),.v (.slice none 0 0),.v (.slice none 0 0),.v (.slice none 0 0)])],1,0⟩,[(4,.jmp 8),(6,.jmp 10),(8,.jmp 11)]⟩,
  ⟨4,#[true,true,false,true,true,true,true,true,false,false,false,false],0,⟨[(0,.i n),(1,.lst z 39 arcs),(27,.i n),(28,.lst z 39 arcs),(30,.i n),(32,.i n),(34,.i n),(31,.osl 0),(33,.osl 1)],[],[],[(0,.arr 3 none 0 (List.replicate (α:=TabT 0) n.toNat (0:Int))),(1,.arr 3 none 0 (List.replicate (α:=TabT 0) n.toNat (0:Int)))],2,0⟩,[(2,.jmp 5),(8,.jmp 11),(10,.jmp 12)]⟩,
  ⟨4,#[true,true,false,true,true,true,false,true,true,false,false,false],0,⟨[(0,.i n),(1,.lst z 39 arcs),(27,.i n),(28,.lst z 39 arcs),(30,.i n),(32,.i n),(34,.i n),(31,.osl 0),(35,.osl 1)],[],[],[(0,.arr 3 none 0 (List.replicate (α:=TabT 0) n.toNat (0:Int))),(1,.arr 3 none 0 (List.replicate (α:=TabT 0) n.toNat (0:Int)))],2,0⟩,[(2,.jmp 5),(6,.jmp 10),(10,.jmp 12)]⟩,
  ⟨4,#[true,true,false,true,true,true,false,true,false,false,true,false],0,⟨[(0,.i n),(1,.lst z 39 arcs),(27,.i n),(28,.lst z 39 arcs),(30,.i n),(32,.i n),(34,.i n),(31,.osl 0),(5,.loc 1 0)],[],[],[(0,.arr 3 none 0 (List.replicate (α:=TabT 0) n.toNat (0:Int))),(1,.row 198 [.v (.slice none 0 0),.v (.slice none 0 0),.v (.slice none 0 0),.v (.slice none 0 0),.v (.slice none 0 0),.v (.slice none 0 0)])],2,0⟩,[(2,.jmp 5),(6,.jmp 10),(8,.jmp 11)]⟩,
  ⟨4,#[true,true,false,true,false,true,true,true,true,false,false,false],0,⟨[(0,.i n),(1,.lst z 39 arcs),(27,.i n),(28,.lst z 39 arcs),(30,.i n),(32,.i n),(34,.i n),(33,.osl 0),(35,.osl 1)],[],[],[(0,.arr 3 none 0 (List.replicate (α:=TabT 0) n.toNat (0:Int))),(1,.arr 3 none 0 (List.replicate (α:=TabT 0) n.toNat (0:Int)))],2,0⟩,[(2,.jmp 5),(4,.jmp 8),(10,.jmp 11)]⟩,
  ⟨4,#[true,true,false,true,false,true,true,true,false,false,true,false],0,⟨[(0,.i n),(1,.lst z 39 arcs),(27,.i n),(28,.lst z 39 arcs),(30,.i n),(32,.i n),(34,.i n),(33,.osl 0),(5,.loc 1 0)],[],[],[(0,.arr 3 none 0 (List.replicate (α:=TabT 0) n.toNat (0:Int))),(1,.row 198 [.v (.slice none 0 0),.v (.slice none 0 0),.v (.slice none 0 0),.v (.slice none 0 0),.v (.slice none 0 0),.v (.slice none 0 0)])],2,0⟩,[(2,.jmp 5),(4,.jmp 8),(8,.jmp 10)]⟩,
  ⟨4,#[true,true,false,true,false,true,false,true,true,false,true,false],0,⟨[(0,.i n),(1,.lst z 39 arcs),(27,.i n),(28,.lst z 39 arcs),(30,.i n),(32,.i n),(34,.i n),(35,.osl 0),(5,.loc 1 0)],[],[],[(0,.arr 3 none 0 (List.replicate (α:=TabT 0) n.toNat (0:Int))),(1,.row 198 [.v (.slice none 0 0),.v (.slice none 0 0),.v (.slice none 0 0),.v (.slice none 0 0),.v (.slice none 0 0),.v (.slice none 0 0)])],2,0⟩,[(2,.jmp 5),(4,.jmp 8),(6,.jmp 9)]⟩,
  ⟨3,#[true,true,true,true,true,true,true,true,false,false,false,false],0,⟨[(0,.i n),(1,.lst z 39 arcs),(27,.i n),(28,.lst z 39 arcs),(30,.i n),(32,.i n),(34,.i n),(29,.lst none 12 (nextS n arcs)),(31,.osl 0),(33,.osl 1)],[],[],[(0,.arr 3 none 0 (List.replicate (α:=TabT 0) n.toNat (0:Int))),(1,.arr 3 none 0 (List.replicate (α:=TabT 0) n.toNat (0:Int)))],2,0⟩,[(8,.take 9 (.jmp 9)),(10,.jmp 10)]⟩,
  ⟨3,#[true,true,true,true,true,true,false,true,true,false,false,false],0,⟨[(0,.i n),(1,.lst z 39 arcs),(27,.i n),(28,.lst z 39 arcs),(30,.i n),(32,.i n),(34,.i n),(29,.lst none 12 (nextS n arcs)),(31,.osl 0),(35,.osl 1)],[],[],[(0,.arr 3 none 0 (List.replicate (α:=TabT 0) n.toNat (0:Int))),(1,.arr 3 none 0 (List.replicate (α:=TabT 0) n.toNat (0:Int)))],2,0⟩,[(6,.take 9 (.jmp 8)),(10,.jmp 10)]⟩,
  ⟨3,#[true,true,true,true,true,true,false,true,false,false,true,false],0,⟨[(0,.i n),(1,.lst z 39 arcs),(27,.i n),(28,.lst z 39 arcs),(30,.i n),(32,.i n),(34,.i n),(29,.lst none 12 (nextS n arcs)),(31,.osl 0),(5,.loc 1 0)],[],[],[(0,.arr 3 none 0 (List.replicate (α:=TabT 0) n.toNat (0:Int))),(1,.row 198 [.v (.slice none 0 0),.v (.slice none 0 0),.v (.slice none 0 0),.v (.slice none 0 0),.v (.slice none 0 0),.v (.slice none 0 0)])],2,0⟩,[(6,.jmp 8),(8,.jmp 9)]⟩,
  ⟨3,#[true,true,true,true,false,true,true,true,true,false,false,false],0,⟨[(0,.i n),(1,.lst z 39 arcs),(27,.i n),(28,.lst z 39 arcs),(30,.i n),(32,.i n),(34,.i n),(29,.lst none 12 (nextS n arcs)),(33,.osl 0),(35,.osl 1)],[],[],[(0,.arr 3 none 0 (List.replicate (α:=TabT 0) n.toNat (0:Int))),(1,.arr 3 none 0 (List.replicate (α:=TabT 0) n.toNat (0:Int)))],2,0⟩,[(4,.take 9 (.jmp 6)),(10,.jmp 9)]⟩,
  ⟨3,#[true,true,true,true,false,true,true,true,false,false,true,false],0,⟨[(0,.i n),(1,.lst z 39 arcs),(27,.i n),(28,.lst z 39 arcs),(30,.i n),(32,.i n),(34,.i n),(29,.lst none 12 (nextS n arcs)),(33,.osl 0),(5,.loc 1 0)],[],[],[(0,.arr 3 none 0 (List.replicate (α:=TabT 0) n.toNat (0:Int))),(1,.row 198 [.v (.slice none 0 0),.v (.slice none 0 0),.v (.slice none 0 0),.v (.slice none 0 0),.v (.slice none 0 0),.v (.slice none 0 0)])],2,0⟩,[(4,.jmp 6),(8,.jmp 8)]⟩,
  ⟨3,#[true,true,true,true,false,true,false,true,true,false,true,false],0,⟨[(0,.i n),(1,.lst z 39 arcs),(27,.i n),(28,.lst z 39 arcs),(30,.i n),(32,.i n),(34,.i n),(29,.lst none 12 (nextS n arcs)),(35,.osl 0),(5,.loc 1 0)],[],[],[(0,.arr 3 none 0 (List.replicate (α:=TabT 0) n.toNat (0:Int))),(1,.row 198 [.v (.slice none 0 0),.v (.slice none 0 0),.v (.slice none 0 0),.v (.slice none 0 0),.v (.slice none 0 0),.v (.slice none 0 0)])],2,0⟩,[(4,.jmp 6),(6,.jmp 7)]⟩,
  ⟨3,#[true,true,false,true,true,true,true,true,true,false,false,false],0,⟨[(0,.i n),(1,.lst z 39 arcs),(27,.i n),(28,.lst z 39 arcs),(30,.i n),(32,.i n),(34,.i n),(31,.osl 0),(33,.osl 1),(35,.osl 2)],[],[],[(0,.arr 3 none 0 (List.replicate (α:=TabT 0) n.toNat (0:Int))),(1,.arr 3 none 0 (List.replicate (α:=TabT 0) n.toNat (0:Int))),(2,.arr 3 none 0 (List.replicate (α:=TabT 0) n.toNat (0:Int)))],3,0⟩,[(2,.take 9 (.jmp 3)),(10,.jmp 7)]⟩,
  ⟨3,#[true,true,false,true,true,true,true,true,false,false,true,false],0,⟨[(0,.i n),(1,.lst z 39 arcs),(27,.i n),(28,.lst z 39 arcs),(30,.i n),(32,.i n),(34,.i n),(31,.osl 0),(33,.osl 1),(5,.loc 2 0)],[],[],[(0,.arr 3 none 0 (List.replicate (α:=TabT 0) n.toNat (0:Int))),(1,.arr 3 none 0 (List.replicate (α:=TabT 0) n.toNat (0:Int))),(2,.row 198 [.v (.slice none 0 0),.v (.slice none 0 0),.v (.slice none 0 0),.v (.slice none 0 0),.v (.slice none 0 0),.v (.slice none 0 0)])],3,0⟩,[(2,.jmp 3),(8,.jmp 6)]⟩,
  ⟨3,#[true,true,false,true,true,true,false,true,true,false,true,false],0,⟨[(0,.i n),(1,.lst z 39 arcs),(27,.i n),(28,.lst z 39 arcs),(30,.i n),(32,.i n),(34,.i n),(31,.osl 0),(35,.osl 1),(5,.loc 2 0)],[],[],[(0,.arr 3 none 0 (List.replicate (α:=TabT 0) n.toNat (0:Int))),(1,.arr 3 none 0 (List.replicate (α:=TabT 0) n.toNat (0:Int))),(2,.row 198 [.v (.slice none 0 0),.v (.slice none 0 0),.v (.slice none 0 0),.v (.slice none 0 0),.v (.slice none 0 0),.v (.slice none 0 0)])],3,0⟩,[(2,.jmp 3),(6,.jmp 5)]⟩,
  ⟨3,#[true,true,false,true,false,true,true,true,true,false,true,false],0,⟨[(0,.i n),(1,.lst z 39 arcs),(27,.i n),(28,.lst z 39 arcs),(30,.i n),(32,.i n),(34,.i n),(33,.osl 0),(35,.osl 1),(5,.loc 2 0)],[],[],[(0,.arr 3 none 0 (List.replicate (α:=TabT 0) n.toNat (0:Int))),(1,.arr 3 none 0 (List.replicate (α:=TabT 0) n.toNat (0:Int))),(2,.row 198 [.v (.slice none 0 0),.v (.slice none 0 0),.v (.slice none 0 0),.v (.slice none 0 0),.v (.slice none 0 0),.v (.slice none 0 0)])],3,0⟩,[(2,.jmp 3),(4,.jmp 4)]⟩,
  ⟨1,#[true,true,true,true,true,true,true,true,true,true,false,false],0,⟨[(0,.i n),(1,.lst z 39 arcs),(27,.i n),(28,.lst z 39 arcs),(30,.i n),(32,.i n),(34,.i n),(29,.lst none 12 (nextS n arcs)),(31,.osl 0),(33,.osl 1),(35,.osl 2),(36,.agg [.lst none 12 (nextS n arcs),.osl 0,.osl 1,.v (.slice none 0 0),.osl 2,.v (.slice none 0 0)])],[],[],[(0,.arr 3 none 0 (List.replicate (α:=TabT 0) n.toNat (0:Int))),(1,.arr 3 none 0 (List.replicate (α:=TabT 0) n.toNat (0:Int))),(2,.arr 3 none 0 (List.replicate (α:=TabT 0) n.toNat (0:Int)))],3,0⟩,[(10,.jmp 4)]⟩,
  ⟨2,#[true,true,true,true,true,true,true,true,false,false,true,false],0,⟨[(0,.i n),(1,.lst z 39 arcs),(27,.i n),(28,.lst z 39 arcs),(30,.i n),(32,.i n),(34,.i n),(29,.lst none 12 (nextS n arcs)),(31,.osl 0),(33,.osl 1),(5,.loc 2 0)],[],[],[(0,.arr 3 none 0 (List.replicate (α:=TabT 0) n.toNat (0:Int))),(1,.arr 3 none 0 (List.replicate (α:=TabT 0) n.toNat (0:Int))),(2,.row 198 [.v (.slice none 0 0),.v (.slice none 0 0),.v (.slice none 0 0),.v (.slice none 0 0),.v (.slice none 0 0),.v (.slice none 0 0)])],3,0⟩,[(8,.take 9 (.jmp 3))]⟩,
  ⟨2,#[true,true,true,true,true,true,false,true,true,false,true,false],0,⟨[(0,.i n),(1,.lst z 39 arcs),(27,.i n),(28,.lst z 39 arcs),(30,.i n),(32,.i n),(34,.i n),(29,.lst none 12 (nextS n arcs)),(31,.osl 0),(35,.osl 1),(5,.loc 2 0)],[],[],[(0,.arr 3 none 0 (List.replicate (α:=TabT 0) n.toNat (0:Int))),(1,.arr 3 none 0 (List.replicate (α:=TabT 0) n.toNat (0:Int))),(2,.row 198 [.v (.slice none 0 0),.v (.slice none 0 0),.v (.slice none 0 0),.v (.slice none 0 0),.v (.slice none 0 0),.v (.slice none 0 0)])],3,0⟩,[(6,.take 9 (.jmp 2))]⟩,
  ⟨2,#[true,true,true,true,false,true,true,true,true,false,true,false],0,⟨[(0,.i n),(1,.lst z 39 arcs),(27,.i n),(28,.lst z 39 arcs),(30,.i n),(32,.i n),(34,.i n),(29,.lst none 12 (nextS n arcs)),(33,.osl 0),(35,.osl 1),(5,.loc 2 0)],[],[],[(0,.arr 3 none 0 (List.replicate (α:=TabT 0) n.toNat (0:Int))),(1,.arr 3 none 0 (List.replicate (α:=TabT 0) n.toNat (0:Int))),(2,.row 198 [.v (.slice none 0 0),.v (.slice none 0 0),.v (.slice none 0 0),.v (.slice none 0 0),.v (.slice none 0 0),.v (.slice none 0 0)])],3,0⟩,[(4,.take 9 (.jmp 1))]⟩,
  ⟨2,#[true,true,false,true,true,true,true,true,true,false,true,false],0,⟨[(0,.i n),(1,.lst z 39 arcs),(27,.i n),(28,.lst z 39 arcs),(30,.i n),(32,.i n),(34,.i n),(31,.osl 0),(33,.osl 1),(35,.osl 2),(5,.loc 3 0)],[],[],[(0,.arr 3 none 0 (List.replicate (α:=TabT 0) n.toNat (0:Int))),(1,.arr 3 none 0 (List.replicate (α:=TabT 0) n.toNat (0:Int))),(2,.arr 3 none 0 (List.replicate (α:=TabT 0) n.toNat (0:Int))),(3,.row 198 [.v (.slice none 0 0),.v (.slice none 0 0),.v (.slice none 0 0),.v (.slice none 0 0),.v (.slice none 0 0),.v (.slice none 0 0)])],4,0⟩,[(2,.take 9 (.jmp 0))]⟩,
  ⟨0,#[true,true,true,true,true,true,true,true,true,true,true,false],0,⟨[(0,.i n),(1,.lst z 39 arcs),(27,.i n),(28,.lst z 39 arcs),(30,.i n),(32,.i n),(34,.i n),(29,.lst none 12 (nextS n arcs)),(31,.osl 0),(33,.osl 1),(35,.osl 2),(5,.loc 3 0),(36,.agg [.lst none 12 (nextS n arcs),.osl 0,.osl 1,.v (.slice none 0 0),.osl 2,.v (.slice none 0 0)])],[],[],[(0,.arr 3 none 0 (List.replicate (α:=TabT 0) n.toNat (0:Int))),(1,.arr 3 none 0 (List.replicate (α:=TabT 0) n.toNat (0:Int))),(2,.arr 3 none 0 (List.replicate (α:=TabT 0) n.toNat (0:Int))),(3,.row 198 [.v (.slice none 0 0),.v (.slice none 0 0),.v (.slice none 0 0),.v (.slice none 0 0),.v (.slice none 0 0),.v (.slice none 0 0)])],4,0⟩,[(11,.fin)]⟩] (Exists.intro (.take 0 (.take 1 (.take 3 (.take 5 (.take 7 (.jmp 0)))))) (And.intro ?_ ?_)))))
   ·repeat' (refine bc_ fun g_=>?_;(conv at g_=>(arg 1;whnf));refine g_ ?_;clear g_;first|exact trivial|(refine And.intro (by kernel_rfl) (show meetsA _ _ _ _ _ _ _ from ?_);(refine bc_ fun g_=>?_;(conv at g_=>(arg 1;whnf));refine g_ ?_;clear g_;repeat' (first|((with_reducible apply And.intro)<;>(first|(with_reducible refine leS_q ?_;apply rfl)|(with_reducible refine leH_rf ?_;apply rfl)|(refine bc_ fun g_=>?_;(conv at g_=>(arg 1;whnf));refine g_ ?_;clear g_)))|(with_reducible apply trivial)|apply rfl|apply(Or.inl rfl)|apply(Or.inr rfl)|apply(Or.inr (Or.inl rfl))|apply trivial|(apply And.intro<;>(refine bc_ fun g_=>?_;(conv at g_=>(arg 1;whnf));refine g_ ?_;clear g_))));done)|(intro bq;cases bq;rotate_left;(focus (intro hbq;exact absurd (hbq rfl) (by omega)));intro _)|((fail_if_success (apply cH_));(fail_if_success (apply uR_));apply Or.inl)|(apply rn_;exact rm_;exact me_)|(apply mt_;exact me_)|(apply ob0_;first|(exact hgo)|(exact hmk)|exact obc_|(exact of_decide_eq_true rfl))|((fail_if_success (fail_if_success (apply And.intro)));first|(apply And.intro<;>(intro h;have hc:=h;(try exact nc1_ hc);(try exact nc2_ hc);try simp only [bs]at h))|refine And.intro (by kernel_rfl) ?_|(refine And.intro ?_ ?_;fail_if_success (refine Ob.mk ?_)))|(intro h;(try (unfold und at h;conv at h=>whnf));try simp only [bs]at h)|(apply wr0_;exact wrc_)|(apply wg0_;exact wgc_))
    all_goals (conv=>whnf)
   ·repeat' (refine bc_ fun g_=>?_;(conv at g_=>(arg 1;whnf));refine g_ ?_;clear g_;first|exact trivial|(refine And.intro (by kernel_rfl) (show meetsA _ _ _ _ _ _ _ from ?_);(refine bc_ fun g_=>?_;(conv at g_=>(arg 1;whnf));refine g_ ?_;clear g_;repeat' (first|((with_reducible apply And.intro)<;>(first|(with_reducible refine leS_q ?_;apply rfl)|(with_reducible refine leH_rf ?_;apply rfl)|(refine bc_ fun g_=>?_;(conv at g_=>(arg 1;whnf));refine g_ ?_;clear g_)))|(with_reducible apply trivial)|apply rfl|apply(Or.inl rfl)|apply(Or.inr rfl)|apply(Or.inr (Or.inl rfl))|apply trivial|(apply And.intro<;>(refine bc_ fun g_=>?_;(conv at g_=>(arg 1;whnf));refine g_ ?_;clear g_))));done)|(intro bq;cases bq;rotate_left;(focus (intro hbq;exact absurd (hbq rfl) (by omega)));intro _)|((fail_if_success (apply cH_));(fail_if_success (apply uR_));apply Or.inl)|(apply rn_;exact rm_;exact me_)|(apply mt_;exact me_)|(apply ob0_;first|(exact hgo)|(exact hmk)|exact obc_|(exact of_decide_eq_true rfl))|((fail_if_success (fail_if_success (apply And.intro)));first|(apply And.intro<;>(intro h;have hc:=h;(try exact nc1_ hc);(try exact nc2_ hc);try simp only [bs]at h))|refine And.intro (by kernel_rfl) ?_|(refine And.intro ?_ ?_;fail_if_success (refine Ob.mk ?_)))|(intro h;(try (unfold und at h;conv at h=>whnf));try simp only [bs]at h)|(apply wr0_;exact wrc_)|(apply wg0_;exact wgc_))
    all_goals (conv=>whnf)
    refine⟨(),trivial,?_⟩;refine bc_ fun g_=>?_;(conv at g_=>(arg 1;whnf));refine g_ ?_;clear g_;repeat' (first|((with_reducible apply And.intro)<;>(first|(with_reducible refine leS_q ?_;apply rfl)|(with_reducible refine leH_rf ?_;apply rfl)|(refine bc_ fun g_=>?_;(conv at g_=>(arg 1;whnf));refine g_ ?_;clear g_)))|(with_reducible apply trivial)|apply rfl|apply(Or.inl rfl)|apply(Or.inr rfl)|apply(Or.inr (Or.inl rfl))|apply trivial|(apply And.intro<;>(refine bc_ fun g_=>?_;(conv at g_=>(arg 1;whnf));refine g_ ?_;clear g_)))
  generalize hnx:nextS n arcs=nx;have hxo:NxOk nx n.toNat:=by rw [← hnx];exact next_ok hgo
  obtain⟨n,rfl⟩:=Int.eq_ofNat_of_zero_le hn0;rw [Int.toNat_natCast]at hxo;generalize hRS:partsS n arcs=RS
  have hRS2:RS=partsOf n nx:=by
    rw [← hRS,← hnx];unfold partsS;rw [hgr];rfl
  generalize hΦ:visS nx (f0 n) n=Φ
  repeat' ((try refine gKe (by assumption) ?_);refine bc_ fun g_=>?_;(conv at g_=>(arg 1;whnf));refine g_ ?_;clear g_;first|(intro bq;cases bq;rotate_left;(focus (intro hbq;exact absurd (hbq rfl) (by omega)));intro _)|((fail_if_success (apply cH_));(fail_if_success (apply uR_));apply Or.inl)|(apply rn_;exact rm_;exact me_)|(apply mt_;exact me_)|(apply ob0_;first|exact obc_|(exact of_decide_eq_true rfl))|(apply And.intro<;>(intro h;have hc:=h;(try exact nc1_ hc);(try exact nc2_ hc);try simp only [bs]at h))|(intro h;(try (unfold und at h;conv at h=>whnf));try simp only [bs]at h)|(apply wr0_;exact wrc_)|(apply wg0_;exact wgc_)|refine gKe (by assumption) ?_)
  all_goals ((try refine gKe (by assumption) ?_);(conv=>whnf))
  refine Or.inr (Or.inr ⟨[(400005,3,0),(600005,25,12)],[38],[],[0,4],[5,6,37],[1,2,3],?_⟩);conv=>whnf
  refine⟨fun(s:Int×Unit) (t:TVf)=>0≤s.1∧s.1≤n∧t.1.1=nx∧fsOf t=visS nx (f0 n) s.1.toNat,fun(s:Int×Unit) _=>(n-s.1).toNat,?_⟩
  conv=>whnf
  refine Ini.mk ⟨by(try dsimp only);omega,by(try dsimp only);omega,rfl,rfl⟩ me_ ?_
  rintro⟨(k:Int),_⟩ ⟨⟨(nx2:List (TabT 12)),_,_,_,_,_,_⟩,(ix:List (TabT 0)),(lw:List (TabT 0)),(stk:List (TabT 0)),(prt:List (TabT 0)),(prs:List (TabT 12)),⟨(cnt:Int),_⟩,_⟩ ⟨h0,h1,hN,hS⟩
  try dsimp only at h0 h1 hN
  refine gK fun K0 hK0=>?_
  replace hS:(⟨ix,lw,stk,prt,prs,cnt⟩:FS)=visS nx (f0 n) k.toNat:=hS;subst hN;obtain⟨k,rfl⟩:=Int.eq_ofNat_of_zero_le h0;rw [Int.toNat_natCast]at hS;obtain⟨hV,hVn⟩:=vis_ok hxo k (by omega)
  rw [← hS]at hV hVn;have hli:List.length (α:=TabT 0) ix=n:=hV.ok.li;have hn2:n≤262144:=by omega
  have hfo:=hV.ok;have hst:=hV.st;have hpl:List.length (α:=List Int) prs≤vis ix:=hV.pl;have oI:(k:Int)<n→0≤(k:Int)∧(k:Int)<(List.length (α:=TabT 0) ix:Nat):=fun h=>⟨h0,by rw [hli];exact h⟩
  have hpn:List.length (α:=TabT 12) prs≤n:=by
    have e1:vis ix≤List.length (α:=TabT 0) ix:=vis_le ix;have e2:List.length (α:=TabT 12) prs≤vis ix:=hpl;omega
  repeat' ((try refine gKe (by assumption) ?_);refine bc_ fun g_=>?_;(conv at g_=>(arg 1;whnf));refine g_ ?_;clear g_;first|(intro bq;cases bq;rotate_left;(focus (intro hbq;exact absurd (hbq rfl) (by omega)));intro _)|((fail_if_success (apply cH_));(fail_if_success (apply uR_));(fail_if_success (apply jR_));apply Or.inl)|(apply rn_;exact rm_;exact me_)|(apply mt_;exact me_)|(apply ob0_;first|(exact oI (by omega))|exact obc_|(exact of_decide_eq_true rfl))|(apply And.intro<;>(intro h;have hc:=h;(try exact nc1_ hc);(try exact nc2_ hc);try simp only [bs]at h))|(intro h;(try (unfold und at h;conv at h=>whnf));try simp only [bs]at h)|(apply wr0_;exact wrc_)|(apply wg0_;exact wgc_)|refine gKe (by assumption) ?_)
  all_goals ((try refine gKe (by assumption) ?_);(conv=>whnf))
  ·refine Or.inl ?_
   repeat' ((try refine gKe (by assumption) ?_);refine bc_ fun g_=>?_;(conv at g_=>(arg 1;whnf));refine g_ ?_;clear g_;first|(intro bq;cases bq;rotate_left;(focus (intro hbq;exact absurd (hbq rfl) (by omega)));intro _)|((fail_if_success (fail_if_success (apply Or.inl)));refine Or.inl ⟨_,_,_,_,[0,5,6,7,8,9,4],hc_find hn2 hxo hfo hst hpl ⟨h0,by omega⟩ (by assumption),rfl,rfl,rfl,rfl,rfl,(And.intro rfl (And.intro rfl (And.intro rfl (And.intro rfl (And.intro rfl (And.intro rfl (And.intro rfl trivial))))))),?_⟩;(rintro _ _ _ ⟨rfl,rfl,rfl⟩;refine And.intro rfl (And.intro rfl ?_)))|((fail_if_success (apply cH_));(fail_if_success (apply uR_));apply Or.inl)|(apply rn_;exact rm_;exact me_)|(apply mt_;exact me_)|(apply ob0_;first|(exact oI (by omega))|exact obc_|(exact of_decide_eq_true rfl))|(apply And.intro<;>(intro h;have hc:=h;(try exact nc1_ hc);(try exact nc2_ hc);try simp only [bs]at h))|(intro h;(try (unfold und at h;conv at h=>whnf));try simp only [bs]at h)|(apply wr0_;exact wrc_)|(apply wg0_;exact wgc_)|refine gKe (by assumption) ?_)
   all_goals ((try refine gKe (by assumption) ?_);(conv=>whnf))
   ·refine⟨by(try dsimp only);omega,by(try dsimp only);omega,rfl,?_⟩
    show findS nx2 ⟨ix,lw,stk,prt,prs,cnt⟩ (k:Int)=visI nx2 (visS nx2 (f0 n) k) k;rw [← hS];unfold visI;exact(if_pos (by assumption)).symm
   ·refine⟨by(try dsimp only);omega,by(try dsimp only);omega,rfl,?_⟩
    show(⟨ix,lw,stk,prt,prs,cnt⟩:FS)=visI nx2 (visS nx2 (f0 n) k) k;rw [← hS];unfold visI;exact(if_neg (by assumption)).symm
  have ek:n=k:=by omega
  subst ek;clear oI;have hP:=vis_all hxo;rw [← hS]at hP;have hΦ2:=hS.trans hΦ;have e1:ix=Φ.index:=congrArg FS.index hΦ2;have e2:lw=Φ.low:=congrArg FS.low hΦ2;have e3:stk=Φ.stack:=congrArg FS.stack hΦ2;have e4:prt=Φ.part:=congrArg FS.part hΦ2;have e5:prs=Φ.parts:=congrArg FS.parts hΦ2;subst e1 e2 e3 e4 e5;replace hP:POk n Φ.part Φ.parts:=hP;have hx0:0≤(List.length (α:=TabT 12) Φ.parts:Int)+1:=by omega
  have hmX:((List.length (α:=TabT 12) Φ.parts:Int)+1)*((24:Nat):Int)≤140737488355328:=by omega
  refine Or.inr (Or.inl ⟨Unit,2,[],[0,5],fun _=>[(8,.osl 10),(9,.nso 11)],fun _=>[(10,.arr 3 none 0 (wu0 (List.length (α:=TabT 12) Φ.parts)).1),(11,.nst 25 3 12 0 (wu0 (List.length (α:=TabT 12) Φ.parts)).2 none)],[],fun _=>True,?_,fun _ _=>?_⟩)
  ·repeat' ((try refine gKe (by assumption) ?_);refine bc_ fun g_=>?_;(conv at g_=>(arg 1;whnf));refine g_ ?_;clear g_;first|(intro bq;cases bq;rotate_left;(focus (intro hbq;exact absurd (hbq rfl) (by omega)));intro _)|((fail_if_success (fail_if_success (apply Or.inl)));first|refine Or.inr (Or.inl (Exists.intro [1,0,0,1,2,1,0,0,1,2,1,1] (Exists.intro (.take 0 (.take 5 (.take 1 (.take 2 (.take 3 (.take 6 (.take 7 (.take 8 (.two 4 (.take 10 (.one 9 (.take 11 .done))) 9 (.one 4 (.take 10 (.take 11 .done)))))))))))) (vcP_len (n:=12) rfl (And.intro (by decide +kernel) ?_))))))|((fail_if_success (apply cH_));(fail_if_success (apply uR_));apply Or.inl)|(apply rn_;exact rm_;exact me_)|(apply mt_;exact me_)|(apply ob0_;first|(exact⟨hx0,rfl,Int.le_trans (Int.mul_le_mul_of_nonneg_left (Int.ofNat_le.2 (by decide)) hx0) hmX⟩)|exact obc_|(exact of_decide_eq_true rfl))|((fail_if_success (fail_if_success (apply And.intro)));first|(apply And.intro<;>(intro h;have hc:=h;(try exact nc1_ hc);(try exact nc2_ hc);try simp only [bs]at h))|refine And.intro (by kernel_rfl) ?_|(refine And.intro ?_ ?_;fail_if_success (refine Ob.mk ?_)))|(intro h;(try (unfold und at h;conv at h=>whnf));try simp only [bs]at h)|(apply wr0_;exact wrc_)|(apply wg0_;exact wgc_)|refine gKe (by assumption) ?_)
   all_goals ((try refine gKe (by assumption) ?_);(conv=>whnf))
   ·refine⟨(),trivial,?_⟩;exact me_
   ·refine⟨(),trivial,?_⟩;exact me_
  have hta:tot nx2≤arcs.length:=by rw [← hnx];exact tot_next _ _
  have hal:arcs.length*16≤140737488355328:=by
    have:=hk.2.1.1;exact this
  generalize hPP:List.length (α:=TabT 12) Φ.parts=PP at *;have hPn:PP≤n:=by rw [← hPP];exact hP.pl
  repeat' ((try refine gKe (by assumption) ?_);refine bc_ fun g_=>?_;(conv at g_=>(arg 1;whnf));refine g_ ?_;clear g_;first|(intro bq;cases bq;rotate_left;(focus (intro hbq;exact absurd (hbq rfl) (by omega)));intro _)|((fail_if_success (apply cH_));(fail_if_success (apply uR_));apply Or.inl)|(apply rn_;exact rm_;exact me_)|(apply mt_;exact me_)|(apply ob0_;first|exact obc_|(exact of_decide_eq_true rfl))|(apply And.intro<;>(intro h;have hc:=h;(try exact nc1_ hc);(try exact nc2_ hc);try simp only [bs]at h))|(intro h;(try (unfold und at h;conv at h=>whnf));try simp only [bs]at h)|(apply wr0_;exact wrc_)|(apply wg0_;exact wgc_)|refine gKe (by assumption) ?_)
  all_goals ((try refine gKe (by assumption) ?_);(conv=>whnf))
  refine Or.inr (Or.inr ⟨[(9,1,0)],[63],[],[10,11],[5,8,9,61,62],[],?_⟩);conv=>whnf
  refine⟨fun(s:Int×Unit) (t:List (TabT 0)×(List (TabT 12)×Unit))=>0≤s.1∧s.1≤(List.length (α:=TabT 12) nx2:Nat)∧(t.1,t.2.1)=wuS Φ.part nx2 (wu0 PP) s.1.toNat,fun(s:Int×Unit) _=>((List.length (α:=TabT 12) nx2:Nat)-s.1).toNat,?_⟩
  conv=>whnf
  refine Ini.mk ⟨by(try dsimp only);omega,by(try dsimp only);omega,rfl⟩ me_ ?_
  rintro⟨(v:Int),_⟩ ⟨(wt:List (TabT 0)),(us:List (TabT 12)),_⟩ ⟨f0,f1,fS⟩
  try dsimp only at f0 f1 fS
  refine gK fun K1 hK1=>?_
  obtain⟨v,rfl⟩:=Int.eq_ofNat_of_zero_le f0;rw [Int.toNat_natCast]at fS;have hnl:List.length (α:=TabT 12) nx2=n:=hxo.len
  repeat' ((try refine gKe (by assumption) ?_);refine bc_ fun g_=>?_;(conv at g_=>(arg 1;whnf));refine g_ ?_;clear g_;first|(intro bq;cases bq;rotate_left;(focus (intro hbq;exact absurd (hbq rfl) (by omega)));intro _)|((fail_if_success (apply cH_));(fail_if_success (apply uR_));apply Or.inl)|(apply rn_;exact rm_;exact me_)|(apply mt_;exact me_)|(apply ob0_;first|exact obc_|(exact of_decide_eq_true rfl))|(apply And.intro<;>(intro h;have hc:=h;(try exact nc1_ hc);(try exact nc2_ hc);try simp only [bs]at h))|(intro h;(try (unfold und at h;conv at h=>whnf));try simp only [bs]at h)|(apply wr0_;exact wrc_)|(apply wg0_;exact wgc_)|refine gKe (by assumption) ?_)
  all_goals ((try refine gKe (by assumption) ?_);(conv=>whnf))
  ·have hvn:v<n:=by omega
   have hW:=wuS_tot hxo hP hPP v (by omega)
   rw [← fS]at hW;have hts:tot (nx2.take (v+1))=tot (nx2.take v)+(rowA nx2 v).length:=tot_take_s nx2 v (by show v<List.length (α:=TabT 12) nx2;omega)
   have htt:tot (nx2.take (v+1))≤tot nx2:=tot_take _ _;have hpv:=hP.p1 (v:Int) (by omega) (by omega)
   refine Or.inr (Or.inr ⟨[(9,1,0)],[70],[],[10,11],[5,8,9,10,61,62,63,68,69],[],?_⟩);conv=>whnf
   refine⟨fun(s:Int×Unit) (t:List (TabT 0)×(List (TabT 12)×Unit))=>0≤s.1∧s.1≤(List.length (α:=TabT 0) (rowA nx2 v):Nat)∧(t.1,t.2.1)=wuR Φ.part (rowA nx2 v) v (wt,us) s.1.toNat,fun(s:Int×Unit) _=>((List.length (α:=TabT 0) (rowA nx2 v):Nat)-s.1).toNat,?_⟩
   conv=>whnf
   refine Ini.mk ⟨by(try dsimp only);omega,by(try dsimp only);omega,rfl⟩ me_ ?_
   rintro⟨(j:Int),_⟩ ⟨(wj:List (TabT 0)),(uj:List (TabT 12)),_⟩ ⟨d0,d1,dS⟩
   try dsimp only at d0 d1 dS
   refine gK fun K2 hK2=>?_
   obtain⟨j,rfl⟩:=Int.eq_ofNat_of_zero_le d0;rw [Int.toNat_natCast]at dS;have hWj:WOk PP (tot (nx2.take v)+j) (wj,uj):=Eq.mpr (congrArg (WOk PP (tot (nx2.take v)+j)) dS) (wuR_ok (n:=n) (row:=rowA nx2 v) hP hPP hW hvn (hxo.row v) j (by show j≤List.length (α:=TabT 0) (rowA nx2 v);omega))
   have hlw:List.length (α:=TabT 0) wj=PP+1:=hWj.lw;have hlu:List.length (α:=TabT 12) uj=PP+1:=hWj.lu;have hlp:List.length (α:=TabT 0) Φ.part=n:=hP.lp;have hwj:(j:Int)<(List.length (α:=TabT 0) (rowA nx2 v):Nat)→0≤gi (rowA nx2 v) j∧gi (rowA nx2 v) j<n:=fun h=>hxo.row v _ (gi_mem (l:=rowA nx2 v) (k:=(j:Int)) (by show j<List.length (α:=TabT 0) (rowA nx2 v);omega))
   have o1:0≤(v:Int)∧(v:Int)<(List.length (α:=TabT 0) Φ.part:Nat):=by omega
   have o2:(j:Int)<(List.length (α:=TabT 0) (rowA nx2 v):Nat)→0≤gi (rowA nx2 v) j∧gi (rowA nx2 v) j<(List.length (α:=TabT 0) Φ.part:Nat):=fun h=>by rw [hlp];exact hwj h
   have hq:(j:Int)<(List.length (α:=TabT 0) (rowA nx2 v):Nat)→1≤gi Φ.part (gi (rowA nx2 v) j)∧gi Φ.part (gi (rowA nx2 v) j)≤PP:=fun h=>by have:=hP.p1 _ (hwj h).1 (hwj h).2;rw [← hPP];exact this
   have hpv2:1≤gi Φ.part v∧gi Φ.part v≤PP:=by rw [← hPP];exact hpv
   have o3:0≤gi Φ.part v∧gi Φ.part v<(List.length (α:=TabT 0) wj:Nat):=by rw [hlw];omega
   have o4:(j:Int)<(List.length (α:=TabT 0) (rowA nx2 v):Nat)→0≤gi Φ.part (gi (rowA nx2 v) j)∧gi Φ.part (gi (rowA nx2 v) j)<(List.length (α:=TabT 12) uj:Nat):=fun h=>by have:=hq h;rw [hlu];omega
   have hwb:0≤gi wj (gi Φ.part v)∧gi wj (gi Φ.part v)≤(tot (nx2.take v)+j:Nat):=hWj.w (gi Φ.part v);have hub:List.length (α:=TabT 0) (rowA uj (gi Φ.part (gi (rowA nx2 v) j)).toNat)≤tot (nx2.take v)+j:=hWj.ul _;have hlr:List.length (α:=TabT 0) (rowA nx2 v)=List.length (α:=Int) (rowA nx2 v):=rfl;have o5:(List.length (α:=TabT 0) (rowA uj (gi Φ.part (gi (rowA nx2 v) j)).toNat)+1)*8≤140737488355328:=by omega
   have hmu:(j:Int)<(List.length (α:=TabT 0) (rowA nx2 v):Nat)→((List.length (α:=TabT 0) (rowA nx2 v):Int)-((j:Int)+1)).toNat<((List.length (α:=TabT 0) (rowA nx2 v):Int)-(j:Int)).toNat:=fun h=>by omega
   have hw1:IntKind.i64.wrap (gi wj (gi Φ.part v)+1)=gi wj (gi Φ.part v)+1:=wrap_id (by exact⟨by omega,by omega⟩)
   have hl1:List.length (α:=TabT 0) (gt 12 nx2 (v:Int).toNat)=List.length (α:=TabT 0) (rowA nx2 v):=rfl;have hl2:gt 0 wj (gt 0 Φ.part (v:Int).toNat).toNat=gi wj (gi Φ.part v):=rfl;have o6:InR (gi wj (gi Φ.part v)+1):=⟨by omega,by omega⟩
   by_cases hjl:(j:Int)<(List.length (α:=TabT 0) (rowA nx2 v):Nat)
   ·have p2:=o2 hjl;have p4:=o4 hjl;have pm:=hmu hjl
    repeat' ((try refine gKe (by assumption) ?_);refine bc_ fun g_=>?_;(conv at g_=>(arg 1;whnf));refine g_ ?_;clear g_;first|(intro bq;cases bq;rotate_left;(focus (intro hbq;exact absurd (hbq rfl) (by omega)));intro _)|((fail_if_success (fail_if_success (apply Exists.intro)));refine Exists.intro _ (And.intro hw1 ?_))|((fail_if_success (fail_if_success (apply Rnd.mk)));refine Rnd.mk ?_ (pm) me_)|((fail_if_success (apply cH_));(fail_if_success (apply uR_));apply Or.inl)|(apply rn_;exact rm_;exact me_)|(apply mt_;exact me_)|((fail_if_success (fail_if_success (apply Exists.intro)));first|(refine ⟨[1,0,1,1,0,1,0,1,1,0,1,1],[0,2,5,7,1,3,4,10,6,8,9,11],(okX_len (n:=12) rfl (by decide +kernel)),?_⟩;(conv=>whnf);(fail_if_success (apply fa_))))|(apply ob0_;first|(exact o1)|(exact p2)|(exact o3)|(exact p4)|(exact o5)|(exact o6)|exact obc_|(exact of_decide_eq_true rfl))|(apply And.intro<;>(intro h;have hc:=h;(try exact nc1_ hc);(try exact nc2_ hc);try simp only [bs]at h))|(intro h;(try (unfold und at h;conv at h=>whnf));try simp only [bs]at h)|(apply wr0_;exact wrc_)|(apply wg0_;exact wgc_)|refine gKe (by assumption) ?_)
    all_goals ((try refine gKe (by assumption) ?_);(conv=>whnf))
    all_goals first
     |(
        refine⟨by(try dsimp only);omega,by show(j:Int)+1≤(List.length (α:=TabT 0) (rowA nx2 v):Nat);omega,?_⟩
        show _=wuI Φ.part (rowA nx2 v) v (wuR Φ.part (rowA nx2 v) v (wt,us) j) j;rw [← dS];unfold wuI
        first|exact(if_neg (by assumption)).symm|exact(if_pos (by assumption)).symm)
     |exact absurd hjl (by assumption)
   ·repeat' ((try refine gKe (by assumption) ?_);refine bc_ fun g_=>?_;(conv at g_=>(arg 1;whnf));refine g_ ?_;clear g_;first|(intro bq;cases bq;rotate_left;(focus (intro hbq;exact absurd (hbq rfl) (by omega)));intro _)|((fail_if_success (apply cH_));(fail_if_success (apply uR_));apply Or.inl)|(apply rn_;exact rm_;exact me_)|(apply mt_;exact me_)|((fail_if_success (fail_if_success (apply Exists.intro)));first|(refine ⟨[1,0,1,1,0,1,0,1,1,0,1,1],[0,2,5,7,1,3,4,10,6,8,9,11],(okX_len (n:=12) rfl (by decide +kernel)),?_⟩;(conv=>whnf);(fail_if_success (apply fa_))))|(apply ob0_;first|exact obc_|(exact of_decide_eq_true rfl))|(apply And.intro<;>(intro h;have hc:=h;(try exact nc1_ hc);(try exact nc2_ hc);try simp only [bs]at h))|(intro h;(try (unfold und at h;conv at h=>whnf));try simp only [bs]at h)|(apply wr0_;exact wrc_)|(apply wg0_;exact wgc_)|refine gKe (by assumption) ?_)
    all_goals ((try refine gKe (by assumption) ?_);(conv=>whnf))
    all_goals first
     |(
        have ej:List.length (α:=TabT 0) (rowA nx2 v)=j:=by omega
        refine⟨by(try dsimp only);omega,by(try dsimp only);omega,?_⟩
        show(wj,uj)=wuR Φ.part (rowA nx2 v) v (wuS Φ.part nx2 (wu0 PP) v) (List.length (α:=TabT 0) (rowA nx2 v));rw [ej,← fS]
        exact dS)
     |omega
     |exact absurd (show(j:Int)<(List.length (α:=TabT 0) (rowA nx2 v):Nat)from h) hjl
  have ev:n=v:=by omega
  subst ev;have hW:=wuS_tot hxo hP hPP n (Nat.le_refl n);rw [← fS]at hW;have hlw:List.length (α:=TabT 0) wt=PP+1:=hW.lw;have hlu:List.length (α:=TabT 12) us=PP+1:=hW.lu;have hlps:List.length (α:=TabT 12) Φ.parts=PP:=hPP
  repeat' ((try refine gKe (by assumption) ?_);refine bc_ fun g_=>?_;(conv at g_=>(arg 1;whnf));refine g_ ?_;clear g_;first|(intro bq;cases bq;rotate_left;(focus (intro hbq;exact absurd (hbq rfl) (by omega)));intro _)|((fail_if_success (apply cH_));(fail_if_success (apply uR_));apply Or.inl)|(apply rn_;exact rm_;exact me_)|(apply mt_;exact me_)|(apply ob0_;first|exact obc_|(exact of_decide_eq_true rfl))|(apply And.intro<;>(intro h;have hc:=h;(try exact nc1_ hc);(try exact nc2_ hc);try simp only [bs]at h))|(intro h;(try (unfold und at h;conv at h=>whnf));try simp only [bs]at h)|(apply wr0_;exact wrc_)|(apply wg0_;exact wgc_)|refine gKe (by assumption) ?_)
  all_goals ((try refine gKe (by assumption) ?_);(conv=>whnf))
  refine Or.inr (Or.inr ⟨[],[111],[],[13],[5,8,9,16,109,110],[12],?_⟩);conv=>whnf
  refine⟨fun(s:Int×Unit) (t:(Unit×Unit)×(List (TabT 12)×Unit))=>0≤s.1∧s.1≤PP∧t.2.1=rdS wt Φ.parts s.1.toNat,fun(s:Int×Unit) _=>(PP-s.1).toNat,?_⟩
  conv=>whnf
  refine Ini.mk ⟨by(try dsimp only);omega,by(try dsimp only);omega,rfl⟩ me_ ?_
  rintro⟨(k:Int),_⟩ ⟨⟨_,_⟩,(hq:List (TabT 12)),_⟩ ⟨g0,g1,gS⟩
  try dsimp only at g0 g1 gS
  refine gK fun K3 hK3=>?_
  obtain⟨k,rfl⟩:=Int.eq_ofNat_of_zero_le g0;rw [Int.toNat_natCast]at gS;have hql:List.length (α:=TabT 12) hq≤k:=by rw [gS];exact rd_len0 wt Φ.parts k
  have hqm:∀ r∈hq,r∈Φ.parts:=by rw [gS];exact rd_mem wt Φ.parts k (by show k≤List.length (α:=TabT 12) Φ.parts;omega)
  have hqN:NE hq:=NE_iff.2 fun r hr=>(hP.pn r (hqm r hr)).1
  by_cases hkP:k<PP
  ·have hdk:decide ((k:Int)<(List.length (α:=TabT 12) Φ.parts:Nat))=true:=decide_eq_true (by omega)
   have hb1:List.length (α:=TabT 12) hq≤262143:=by omega
   have hxp:0<List.length (α:=TabT 0) (gt 12 Φ.parts (k:Int).toNat):=List.length_pos_iff.2 (hP.pn _ (rowA_mem (l:=Φ.parts) (i:=k) (by show k<List.length (α:=TabT 12) Φ.parts;omega))).1
   have ow:0≤(k:Int)+1∧(k:Int)+1<(List.length (α:=TabT 0) wt:Nat):=by omega
   repeat' ((try refine gKe (by assumption) ?_);refine bc_ fun g_=>?_;(conv at g_=>(arg 1;whnf));refine g_ ?_;clear g_;first|(intro bq;cases bq;rotate_left;(focus (intro hbq;exact absurd (hbq rfl) (by omega)));intro _)|((fail_if_success (fail_if_success (apply Or.inl)));refine Or.inl ⟨_,_,_,_,[13,14],hc_hpush hb1 hqN hxp,rfl,rfl,rfl,rfl,rfl,(And.intro rfl (And.intro rfl trivial)),?_⟩;(rintro _ _ _ ⟨rfl,rfl,rfl⟩;refine And.intro rfl (And.intro rfl ?_)))|((fail_if_success (apply cH_));(fail_if_success (apply uR_));apply Or.inl)|(apply rn_;exact rm_;exact me_)|(apply mt_;exact me_)|(apply ob0_;first|(exact ow)|exact obc_|(exact of_decide_eq_true rfl))|(apply And.intro<;>(intro h;have hc:=h;(try exact nc1_ hc);(try exact nc2_ hc);(try exact nc3_ hc);(try exact nc4_ hc);try simp only [bs]at h))|(intro h;(try (unfold und at h;conv at h=>whnf));try simp only [bs]at h)|(apply wr0_;exact wrc_)|(apply wg0_;exact wgc_)|refine gKe (by assumption) ?_)
   all_goals ((try refine gKe (by assumption) ?_);(conv=>whnf))
   ·refine⟨by(try dsimp only);omega,by(try dsimp only);omega,?_⟩
    show pushH hq (rowA Φ.parts k)=rdS wt Φ.parts (k+1);exact(congrArg (fun h=>pushH h (rowA Φ.parts k)) gS).trans (rdS_s1 (by assumption)).symm
   ·refine⟨by(try dsimp only);omega,by(try dsimp only);omega,?_⟩
    show hq=rdS wt Φ.parts (k+1);exact gS.trans (rdS_s0 (by assumption)).symm
  have hdk:decide ((k:Int)<(List.length (α:=TabT 12) Φ.parts:Nat))=false:=decide_eq_false (by omega)
  repeat' ((try refine gKe (by assumption) ?_);refine bc_ fun g_=>?_;(conv at g_=>(arg 1;whnf));refine g_ ?_;clear g_;first|(intro bq;cases bq;rotate_left;(focus (intro hbq;exact absurd (hbq rfl) (by omega)));intro _)|((fail_if_success (apply cH_));(fail_if_success (apply uR_));apply Or.inl)|(apply rn_;exact rm_;exact me_)|(apply mt_;exact me_)|(apply ob0_;first|exact obc_|(exact of_decide_eq_true rfl))|(apply And.intro<;>(intro h;have hc:=h;(try exact nc1_ hc);(try exact nc2_ hc);(try exact nc3_ hc);(try exact nc4_ hc);try simp only [bs]at h))|(intro h;(try (unfold und at h;conv at h=>whnf));try simp only [bs]at h)|(apply wr0_;exact wrc_)|(apply wg0_;exact wgc_)|refine gKe (by assumption) ?_)
  all_goals ((try refine gKe (by assumption) ?_);(conv=>whnf))
  have ek:k=PP:=by omega
  rw [ek]at gS;have hta2:tot (nx2.take n)≤arcs.length:=Nat.le_trans (tot_take _ _) hta;generalize hTT:tot (nx2.take n)=TT at *;have hnu:nuS (hq,wt)≤PP:=by rw [gS];exact rd_nu hW.lw hW.w0
  have hPT:PP*TT≤2305843009213693952:=Nat.le_trans (Nat.mul_le_mul (show PP≤262144 by omega) (show TT≤8796093022208 by omega)) (by decide)
  obtain⟨F,hF0⟩:∃ F,lsS Φ.part Φ.parts us (nuS (hq,wt)) ⟨hq,wt,[]⟩=F:=⟨_,rfl⟩
  have hFR:F.out=RS:=by
    have hPP':(Φ.parts:Rows).length=PP:=hPP;rw [hRS2];unfold partsOf;rw [hΦ];show _=(lsS Φ.part Φ.parts (wuS Φ.part nx2 (wu0 (Φ.parts:Rows).length) n).2 (nuS (rdS (wuS Φ.part nx2 (wu0 (Φ.parts:Rows).length) n).1 Φ.parts (Φ.parts:Rows).length,(wuS Φ.part nx2 (wu0 (Φ.parts:Rows).length) n).1)) ⟨rdS (wuS Φ.part nx2 (wu0 (Φ.parts:Rows).length) n).1 Φ.parts (Φ.parts:Rows).length,(wuS Φ.part nx2 (wu0 (Φ.parts:Rows).length) n).1,[]⟩).out;rw [hPP',← fS,← hF0,gS]
  have hwp:∀ p,0≤gi wt p∧gi wt p≤TT:=hW.w;have hT0:TOk Φ.part Φ.parts us PP PP TT F ⟨hq,wt,[]⟩:=⟨⟨hW.lw,fun p=>by have:=hwp p;show -((_:Nat):Int)≤gi wt p;omega,fun p=>by have:=hwp p;show gi wt p≤_;omega,hqm⟩,hnu,by show 0+nuS (hq,wt)≤PP;rw [Nat.zero_add];exact hnu,hF0⟩
  refine Or.inr (Or.inr ⟨[(19,25,12),(9,0,0)],[19,9],[],[13,10],[5,8,16],[14,11],?_⟩);conv=>whnf
  refine⟨fun(s:Unit×List (TabT 12)×Unit) (t:List (TabT 12)×((Unit×Unit)×(List (TabT 12)×(List (TabT 0)×Unit))))=>s.2.1=us∧TOk Φ.part Φ.parts us PP PP TT F ⟨t.2.2.1,t.2.2.2.1,t.1⟩,fun(s:Unit×List (TabT 12)×Unit) t=>nuS (t.2.2.1,t.2.2.2.1),?_⟩
  conv=>whnf
  refine Ini.mk ⟨rfl,hT0⟩ me_ ?_;rintro⟨_,us2,_⟩ ⟨(ot:List (TabT 12)),⟨_,_⟩,(hh:List (TabT 12)),(wj:List (TabT 0)),_⟩ ⟨hus,hT1⟩;refine gK fun K4 hK4=>?_
  replace hus:us2=us:=hus;rw [← hus]at hT1 hW hlu;replace hT1:TOk Φ.part Φ.parts us2 PP PP TT F ⟨hh,wj,ot⟩:=hT1;have hWu:∀ q:Nat,∀ p∈rowA us2 q,1≤p∧p≤PP:=hW.u;have hnuT:nuS (hh,wj)≤PP:=hT1.nu;have hhl:List.length (α:=TabT 12) hh≤nuS (hh,wj):=Nat.le_add_left _ _;have hol:List.length (α:=TabT 12) ot+nuS (hh,wj)≤PP:=hT1.ol;have hme:∀ r∈hh,r∈Φ.parts:=hT1.lok.me;have hT2:∀ q:Nat,(rowA us2 q).length≤TT:=hW.ul;have hhN:NE hh:=NE_iff.2 fun r hr=>(hP.pn r (hme r hr)).1
  by_cases hh0:0<List.length (α:=TabT 12) hh
  ·have hd4:decide ((0:Int)<(List.length (α:=TabT 12) hh:Nat))=true:=decide_eq_true (by omega)
   have hhb:List.length (α:=TabT 12) hh≤262144:=by omega
   obtain⟨p1,p2,p3⟩:=pop_ok2 hT1.lok hh0;have hX:=hP.pn _ p3;have hX0:0<List.length (α:=TabT 0) (popX hh):=List.length_pos_iff.2 hX.1;have hXr:0≤gi (popX hh) 0∧gi (popX hh) 0<n:=hX.2 _ (gi_mem (l:=popX hh) (k:=0) (by exact hX0))
   have hlp:List.length (α:=TabT 0) Φ.part=n:=hP.lp;have hpX:=hP.p1 _ hXr.1 hXr.2;have o0:0≤(0:Int)∧(0:Int)<(List.length (α:=TabT 0) (popX hh):Nat):=by omega
   have o1:0≤gi (popX hh) 0∧gi (popX hh) 0<(List.length (α:=TabT 0) Φ.part:Nat):=by omega
   have hlps2:((Φ.parts:Rows).length:Int)=PP:=by exact congrArg Int.ofNat hlps
   have o2:0≤gi Φ.part (gi (popX hh) 0)∧gi Φ.part (gi (popX hh) 0)<(List.length (α:=TabT 12) us2:Nat):=by omega
   have o3:(List.length (α:=TabT 12) ot+1)*24≤140737488355328:=by omega
   repeat' ((try refine gKe (by assumption) ?_);refine bc_ fun g_=>?_;(conv at g_=>(arg 1;whnf));refine g_ ?_;clear g_;first|(intro bq;cases bq;rotate_left;(focus (intro hbq;exact absurd (hbq rfl) (by omega)));intro _)|((fail_if_success (fail_if_success (apply Or.inl)));refine Or.inl ⟨_,_,_,_,[13,16],hc_hpop2 hh0 hhb hhN,rfl,rfl,rfl,rfl,rfl,(And.intro rfl (And.intro rfl trivial)),?_⟩;(rintro _ _ _ ⟨rfl,rfl,rfl⟩;refine And.intro rfl (And.intro rfl ?_)))|((fail_if_success (apply cH_));(fail_if_success (apply uR_));apply Or.inl)|(apply rn_;exact rm_;exact me_)|(apply mt_;exact me_)|((fail_if_success (fail_if_success (apply Exists.intro)));first|(refine ⟨[1,1,0,1,1,0,1,0,1,0,0,1],[0,1,3,4,11,2,5,6,7,8,9,10],(okX_len (n:=12) rfl (by decide +kernel)),?_⟩;(conv=>whnf);(fail_if_success (apply fa_))))|(apply ob0_;first|(exact o0)|(exact o1)|(exact o2)|(exact o3)|exact obc_|(exact of_decide_eq_true rfl))|(apply And.intro<;>(intro h;have hc:=h;(try exact nc1_ hc);(try exact nc2_ hc);(try exact nc3_ hc);(try exact nc4_ hc);try simp only [bs]at h))|(intro h;(try (unfold und at h;conv at h=>whnf));try simp only [bs]at h)|(apply wr0_;exact wrc_)|(apply wg0_;exact wgc_)|refine gKe (by assumption) ?_)
   all_goals ((try refine gKe (by assumption) ?_);(conv=>whnf))
   refine Or.inr (Or.inr ⟨[],[148],[],[13,10],[5,8,9,16,19,146,147],[17],?_⟩);conv=>whnf
   refine⟨fun(s:Int×Unit) (t:(Unit×Unit)×(List (TabT 12)×(List (TabT 0)×Unit)))=>0≤s.1∧s.1≤(List.length (α:=TabT 0) (urow us2 Φ.part hh):Nat)∧(t.2.1,t.2.2.1)=lsR Φ.parts (urow us2 Φ.part hh) ((popH hh).take (hh.length-1),wj) s.1.toNat,fun(s:Int×Unit) _=>((List.length (α:=TabT 0) (urow us2 Φ.part hh):Nat)-s.1).toNat,?_⟩
   conv=>whnf
   refine Ini.mk ⟨by(try dsimp only);omega,by(try dsimp only);omega,rfl⟩ me_ ?_
   rintro⟨(j:Int),_⟩ ⟨⟨_,_⟩,(h5:List (TabT 12)),(w5:List (TabT 0)),_⟩ ⟨b0,b1,bS⟩
   try dsimp only at b0 b1 bS
   refine gK fun K5 hK5=>?_
   obtain⟨j,rfl⟩:=Int.eq_ofNat_of_zero_le b0;rw [Int.toNat_natCast]at bS;obtain⟨m1,m2⟩:=hT1.mid hP hlps hWu hT2 hh0 (k:=j) (by show j≤List.length (α:=TabT 0) (urow us2 Φ.part hh);omega)
   replace m1:LOk PP Φ.parts (PP*TT) (lsR Φ.parts (urow us2 Φ.part hh) ((popH hh).take (hh.length-1),wj) j):=m1;replace m2:nuS (lsR Φ.parts (urow us2 Φ.part hh) ((popH hh).take (hh.length-1),wj) j)+1≤PP:=m2;rw [← bS]at m1 m2;have hw5:List.length (α:=TabT 0) w5=PP+1:=m1.lw;have h5l:List.length (α:=TabT 12) h5≤nuS (h5,w5):=Nat.le_add_left _ _;have h5N:NE h5:=NE_iff.2 fun r hr=>(hP.pn r (m1.me r hr)).1
   by_cases hjl:(j:Int)<(List.length (α:=TabT 0) (urow us2 Φ.part hh):Nat)
   ·have hd5:decide ((j:Int)<(List.length (α:=TabT 0) (urow us2 Φ.part hh):Nat))=true:=decide_eq_true hjl;have hpj:1≤gi (urow us2 Φ.part hh) j∧gi (urow us2 Φ.part hh) j≤PP:=hWu _ _ (gi_mem (l:=urow us2 Φ.part hh) (k:=(j:Int)) (by show j<List.length (α:=TabT 0) (urow us2 Φ.part hh);omega))
    have hlo:-((PP*TT:Nat):Int)≤gi w5 (gi (urow us2 Φ.part hh) j):=m1.lo _;have hhi:gi w5 (gi (urow us2 Φ.part hh) j)≤4611686018427387904:=m1.hi _;have q1:0≤gi (urow us2 Φ.part hh) j∧gi (urow us2 Φ.part hh) j<(List.length (α:=TabT 0) w5:Nat):=by omega
    have q2:∀ (k:Nat) (x:TabT 0),0≤gi (urow us2 Φ.part hh) j∧gi (urow us2 Φ.part hh) j<(List.length (α:=TabT 0) (List.set (α:=TabT 0) w5 k x):Nat):=fun k x=>by rw [@List.length_set (TabT 0) w5 k x];exact q1
    have q3:0≤gi (urow us2 Φ.part hh) j-1∧gi (urow us2 Φ.part hh) j-1<(List.length (α:=TabT 12) Φ.parts:Nat):=by omega
    have q4:InR (gi w5 (gi (urow us2 Φ.part hh) j)-1):=⟨by omega,by omega⟩
    have q5:IntKind.i64.wrap (gi w5 (gi (urow us2 Φ.part hh) j)-1)=gi w5 (gi (urow us2 Φ.part hh) j)-1:=wrap_id (by exact q4)
    have q6:IntKind.i64.wrap (gi (urow us2 Φ.part hh) j-1)=gi (urow us2 Φ.part hh) j-1:=wrap_id (by exact⟨by omega,by omega⟩)
    obtain⟨l1,l2⟩:=lsI_ok (row:=urow us2 Φ.part hh) (k:=j) hlps m1 hpj
    have q7:gi (w5.set (gi (urow us2 Φ.part hh) j).toNat (gi w5 (gi (urow us2 Φ.part hh) j)-1)) (gi (urow us2 Φ.part hh) j)=0→List.length (α:=TabT 12) h5≤262143:=fun h=>by
      have e:(lsI Φ.parts (urow us2 Φ.part hh) (h5,w5) j).1=pushH h5 (rowA Φ.parts (gi (urow us2 Φ.part hh) j-1).toNat):=if_pos h;have e2:(lsI Φ.parts (urow us2 Φ.part hh) (h5,w5) j).1.length≤nuS (lsI Φ.parts (urow us2 Φ.part hh) (h5,w5) j):=Nat.le_add_left _ _;have e4:(pushH h5 (rowA Φ.parts (gi (urow us2 Φ.part hh) j-1).toNat)).length=(h5:Rows).length+1:=(push_keep _ _).1
      have e5:(h5:Rows).length+1≤PP:=by
        rw [← e4,← e];exact Nat.le_trans e2 (Nat.le_trans l2 (by omega))
      exact Nat.le_of_succ_le_succ (Nat.le_trans e5 (by omega))
    have q8:0<List.length (α:=TabT 0) (rowA Φ.parts (gi (urow us2 Φ.part hh) j-1).toNat):=List.length_pos_iff.2 (hP.pn _ (rowA_mem (l:=Φ.parts) (i:=(gi (urow us2 Φ.part hh) j-1).toNat) (by show _<List.length (α:=TabT 12) Φ.parts;omega))).1
    have pm:((List.length (α:=TabT 0) (urow us2 Φ.part hh):Nat)-((j:Int)+1)).toNat<((List.length (α:=TabT 0) (urow us2 Φ.part hh):Nat)-(j:Int)).toNat:=by omega
    repeat' ((try refine gKe (by assumption) ?_);refine bc_ fun g_=>?_;(conv at g_=>(arg 1;whnf));refine g_ ?_;clear g_;first|(intro bq;cases bq;rotate_left;(focus (intro hbq;exact absurd (hbq rfl) (by omega)));intro _)|((fail_if_success (fail_if_success (apply Exists.intro)));refine Exists.intro _ (And.intro q5 ?_))|((fail_if_success (fail_if_success (apply Exists.intro)));refine Exists.intro _ (And.intro q6 ?_))|((fail_if_success (fail_if_success (apply Rnd.mk)));refine Rnd.mk ?_ (pm) me_)|((fail_if_success (fail_if_success (apply Or.inl)));refine Or.inl ⟨_,_,_,_,[13,20],hc_hpush (q7 (by assumption)) h5N q8,rfl,rfl,rfl,rfl,rfl,(And.intro rfl (And.intro rfl trivial)),?_⟩;(rintro _ _ _ ⟨rfl,rfl,rfl⟩;refine And.intro rfl (And.intro rfl ?_)))|((fail_if_success (apply cH_));(fail_if_success (apply uR_));apply Or.inl)|(apply rn_;exact rm_;exact me_)|(apply mt_;exact me_)|(apply ob0_;first|(exact q1)|(exact q2 _ _)|(exact q3)|(exact q4)|exact obc_|(exact of_decide_eq_true rfl))|(apply And.intro<;>(intro h;have hc:=h;(try exact nc1_ hc);(try exact nc2_ hc);(try exact nc3_ hc);(try exact nc4_ hc);try simp only [bs]at h))|(intro h;(try (unfold und at h;conv at h=>whnf));try simp only [bs]at h)|(apply wr0_;exact wrc_)|(apply wg0_;exact wgc_)|refine gKe (by assumption) ?_)
    all_goals ((try refine gKe (by assumption) ?_);(conv=>whnf))
    ·refine⟨by(try dsimp only);omega,by show(j:Int)+1≤(List.length (α:=TabT 0) (urow us2 Φ.part hh):Nat);omega,?_⟩
     show _=lsI Φ.parts (urow us2 Φ.part hh) (lsR Φ.parts (urow us2 Φ.part hh) ((popH hh).take (hh.length-1),wj) j) j;rw [← bS];unfold lsI;exact congrArg (fun h=>(h,_)) (if_pos (by assumption)).symm
    ·refine⟨by(try dsimp only);omega,by show(j:Int)+1≤(List.length (α:=TabT 0) (urow us2 Φ.part hh):Nat);omega,?_⟩
     show _=lsI Φ.parts (urow us2 Φ.part hh) (lsR Φ.parts (urow us2 Φ.part hh) ((popH hh).take (hh.length-1),wj) j) j;rw [← bS];unfold lsI;exact congrArg (fun h=>(h,_)) (if_neg (by assumption)).symm
   ·have hd5:decide ((j:Int)<(List.length (α:=TabT 0) (urow us2 Φ.part hh):Nat))=false:=decide_eq_false hjl
    have ej:j=(urow us2 Φ.part hh).length:=by
      show j=List.length (α:=TabT 0) (urow us2 Φ.part hh);omega
    rw [ej]at bS;obtain⟨t1,t2⟩:=hT1.next hP hlps hWu hT2 hh0;have eh:h5=(lsO Φ.part Φ.parts us2 ⟨hh,wj,ot⟩).h:=congrArg Prod.fst bS;have ew:w5=(lsO Φ.part Φ.parts us2 ⟨hh,wj,ot⟩).W:=congrArg Prod.snd bS;have t3:TOk Φ.part Φ.parts us2 PP PP TT F ⟨h5,w5,@HAppend.hAppend (List (List Int)) (List (List Int)) (List (List Int)) _ ot [popX hh]⟩:=by rw [eh,ew];exact t1
    have t4:nuS (h5,w5)<nuS (hh,wj):=by rw [eh,ew];exact t2
    rw [hus]at t3
    repeat' ((try refine gKe (by assumption) ?_);refine bc_ fun g_=>?_;(conv at g_=>(arg 1;whnf));refine g_ ?_;clear g_;first|(intro bq;cases bq;rotate_left;(focus (intro hbq;exact absurd (hbq rfl) (by omega)));intro _)|((fail_if_success (apply cH_));(fail_if_success (apply uR_));apply Or.inl)|(apply rn_;exact rm_;exact me_)|(apply mt_;exact me_)|(apply ob0_;first|exact obc_|(exact of_decide_eq_true rfl))|(apply And.intro<;>(intro h;have hc:=h;(try exact nc1_ hc);(try exact nc2_ hc);(try exact nc3_ hc);(try exact nc4_ hc);try simp only [bs]at h))|(intro h;(try (unfold und at h;conv at h=>whnf));try simp only [bs]at h)|(apply wr0_;exact wrc_)|(apply wg0_;exact wgc_)|refine gKe (by assumption) ?_)
    all_goals ((try refine gKe (by assumption) ?_);(conv=>whnf))
    exact⟨hus,t3⟩
  have hd4:decide ((0:Int)<(List.length (α:=TabT 12) hh:Nat))=false:=decide_eq_false (by omega)
  repeat' ((try refine gKe (by assumption) ?_);refine bc_ fun g_=>?_;(conv at g_=>(arg 1;whnf));refine g_ ?_;clear g_;first|(intro bq;cases bq;rotate_left;(focus (intro hbq;exact absurd (hbq rfl) (by omega)));intro _)|((fail_if_success (apply cH_));(fail_if_success (apply uR_));apply Or.inl)|(apply rn_;exact rm_;exact me_)|(apply mt_;exact me_)|(apply ob0_;first|exact obc_|(exact of_decide_eq_true rfl))|(apply And.intro<;>(intro h;have hc:=h;(try exact nc1_ hc);(try exact nc2_ hc);(try exact nc3_ hc);(try exact nc4_ hc);try simp only [bs]at h))|(intro h;(try (unfold und at h;conv at h=>whnf));try simp only [bs]at h)|(apply wr0_;exact wrc_)|(apply wg0_;exact wgc_)|refine gKe (by assumption) ?_)
  all_goals ((try refine gKe (by assumption) ?_);(conv=>whnf))
  have hout:=hT1.done hh0;exact⟨Or.inl rfl,eqL_of (hout.trans hFR)⟩
 ·trivial
noncomputable def F_AE:Fact E0:=Fact.co [.un,.lst none 39 []] ⟨120,a_Bt,by unfold FnOK;kernel_rfl,o_DH⟩
end Go.SX
namespace Go.SX
open Go.XK Go.RowKit
set_option maxHeartbeats 8000000 in
@[reducible] def a_Bs:List SV→PR
 |[.i n,.lst z 39 arcs]=>.ok (.lst none 0 (cycS n arcs))
 |_=>.no
set_option maxHeartbeats 8000000 in
theorem o_DG:FOK 103 a_Bs:=by
 intro args m ids vs hG hm hv;unfold a_Bs;split
 ·rename_i n z arcs;refine calls_fact (DB:=[F_AE,F_AF,F_AI,F_AJ,F_BO]) (IL:=[]) (WL:=[]) (fn:=Proofs.Tryz.f103) rfl rfl rfl rfl rfl rfl (fun hk=>?_) m ids vs hG hm hv
  clear hG hm hv;simp only [know]at hk;have hal:arcs.length*16≤140737488355328:=hk.2.1.1
  have hpm:gRight n arcs=true→∀ r∈partsS n arcs,r≠[]∧∀ w∈r,0≤w∧w<n:=fun h=>by
    have hgo:=gr_ok h;obtain⟨m,rfl⟩:=Int.eq_ofNat_of_zero_le hgo.1;have hx:=next_ok hgo;rw [Int.toNat_natCast]at hx;unfold partsS;rw [h];exact partsOf_mem hx (Nat.le_trans (tot_next (m:Int) arcs) (show List.length (α:=TabT 39) arcs≤4611686018427387904 by omega))
  have hp0:gRight n arcs=false→partsS n arcs=[]:=fun h=>by unfold partsS;rw [h];rfl
  have hcy:∀ C:List Int,cycS n arcs=(bif gRight n arcs then(if alA arcs (plA (partsS n arcs) n (partsS n arcs).length) arcs.length=n then []else beB (search1 n arcs (alA arcs (plA (partsS n arcs) n (partsS n arcs).length) arcs.length)) (alA arcs (plA (partsS n arcs) n (partsS n arcs).length) arcs.length) arcs arcs.length)else []):=fun _=>rfl
  replace hcy:=hcy [];generalize cycS n arcs=C at hcy
  repeat' (refine bc_ fun g_=>?_;(conv at g_=>(arg 1;whnf));refine g_ ?_;clear g_;first|(intro bq;cases bq;rotate_left;(focus (intro hbq;exact absurd (hbq rfl) (by omega)));intro _)|((fail_if_success (apply cH_));(fail_if_success (apply uR_));apply Or.inl)|(apply rn_;exact rm_;exact me_)|(apply mt_;exact me_)|(apply ob0_;first|exact obc_|(exact of_decide_eq_true rfl))|(apply And.intro<;>(intro h;have hc:=h;(try exact nc1_ hc);(try exact nc2_ hc);try simp only [bs]at h))|(intro h;(try (unfold und at h;conv at h=>whnf));try simp only [bs]at h)|(apply wr0_;exact wrc_)|(apply wg0_;exact wgc_))
  all_goals (conv=>whnf)
  generalize partsS n arcs=ps at *;refine Or.inr (Or.inr ⟨[],[5,20],[],[],[0,1,18,19,36,37,38,39,82,83,84,85,86,87,88,89,90,91,92,93,94,95,96,97,98,99,100,101,102,103],[],?_⟩);conv=>whnf
  refine⟨fun(s:Int×Int×Unit) (_:Unit)=>∃ k:Nat,s.2.1=k∧k≤List.length (α:=TabT 12) ps∧s.1=plA ps n k,fun(s:Int×Int×Unit) _=>((List.length (α:=TabT 12) ps:Nat)-s.2.1).toNat,?_⟩
  conv=>whnf
  refine Ini.mk ⟨0,rfl,Nat.zero_le _,rfl⟩ me_ ?_;rintro⟨(l0:Int),(k:Int),_⟩ _ ⟨k,hk1,hk2,hS⟩;replace hk1:_=(k:Int):=hk1;subst hk1;replace hS:l0=plA ps n k:=hS;replace hk2:k≤List.length (α:=TabT 12) ps:=hk2;refine gK fun K hK=>?_
  by_cases hkl:k<List.length (α:=TabT 12) ps
  ·have hd:decide ((k:Int)<(List.length (α:=TabT 12) ps:Nat))=true:=decide_eq_true (by omega)
   repeat' ((try refine gKe (by assumption) ?_);refine bc_ fun g_=>?_;(conv at g_=>(arg 1;whnf));refine g_ ?_;clear g_;first|(intro bq;cases bq;rotate_left;(focus (intro hbq;exact absurd (hbq rfl) (by omega)));intro _)|((fail_if_success (apply cH_));(fail_if_success (apply uR_));apply Or.inl)|(apply rn_;exact rm_;exact me_)|(apply mt_;exact me_)|(apply ob0_;first|exact obc_|(exact of_decide_eq_true rfl))|(apply And.intro<;>(intro h;have hc:=h;(try exact nc1_ hc);(try exact nc2_ hc);(try exact nc3_ hc);(try exact nc4_ hc);try simp only [bs]at h))|(intro h;(try (unfold und at h;conv at h=>whnf));try simp only [bs]at h)|(apply wr0_;exact wrc_)|(apply wg0_;exact wgc_)|refine gKe (by assumption) ?_)
   all_goals ((try refine gKe (by assumption) ?_);(conv=>whnf))
   ·refine⟨k+1,rfl,hkl,?_⟩;exact(congrArg (fun x=>min x (gi (rowA ps k) 0)) hS).trans (plA_s1 (by assumption)).symm
   ·refine⟨k+1,rfl,hkl,?_⟩;exact hS.trans (plA_s0 (by assumption)).symm
  have hd:decide ((k:Int)<(List.length (α:=TabT 12) ps:Nat))=false:=decide_eq_false (by omega)
  have ek:k=List.length (α:=List Int) ps:=Nat.le_antisymm hk2 (Nat.le_of_not_lt hkl);rw [ek]at hS;rw [← hS]at hcy
  cases hg:gRight n arcs with
  |false =>
    have hcy2:C=[]:=by rw [hcy,hg];rfl
    have hps:=hp0 hg;have hl0:l0=n:=by rw [hS,hps];rfl
    have hd2:(decide (l0<0) || !gRight n arcs)=true:=by rw [hg];exact Bool.or_true _
    repeat' ((try refine gKe (by assumption) ?_);refine bc_ fun g_=>?_;(conv at g_=>(arg 1;whnf));refine g_ ?_;clear g_;first|(intro bq;cases bq;rotate_left;(focus (intro hbq;exact absurd (hbq rfl) (by omega)));intro _)|((fail_if_success (apply cH_));(fail_if_success (apply uR_));apply Or.inl)|(apply rn_;exact rm_;exact me_)|(apply mt_;exact me_)|(apply ob0_;first|exact obc_|(exact of_decide_eq_true rfl))|(apply And.intro<;>(intro h;have hc:=h;(try exact nc1_ hc);(try exact nc2_ hc);(try exact nc3_ hc);(try exact nc4_ hc);try simp only [bs]at h))|(intro h;(try (unfold und at h;conv at h=>whnf));try simp only [bs]at h)|(apply wr0_;exact wrc_)|(apply wg0_;exact wgc_)|refine gKe (by assumption) ?_)
    all_goals ((try refine gKe (by assumption) ?_);(conv=>whnf))
    exact⟨Or.inl rfl,hcy2⟩
  |true =>
    have hgo:=gr_ok hg;obtain⟨n,rfl⟩:=Int.eq_ofNat_of_zero_le hgo.1;have hn1:n≤262144:=by have:=hgo.2.1;omega
    have hl0:0≤l0∧l0≤n:=by rw [hS];exact plA_rng (hpm hg) _ (Nat.le_refl _)
    have hd2:(decide (l0<0) || !gRight n arcs)=false:=by rw [hg,decide_eq_false (by omega)];rfl
    rw [hg]at hcy;replace hcy:C=(if alA arcs l0 arcs.length=n then []else beB (search1 n arcs (alA arcs l0 arcs.length)) (alA arcs l0 arcs.length) arcs arcs.length):=hcy
    repeat' ((try refine gKe (by assumption) ?_);refine bc_ fun g_=>?_;(conv at g_=>(arg 1;whnf));refine g_ ?_;clear g_;first|(intro bq;cases bq;rotate_left;(focus (intro hbq;exact absurd (hbq rfl) (by omega)));intro _)|((fail_if_success (apply cH_));(fail_if_success (apply uR_));apply Or.inl)|(apply rn_;exact rm_;exact me_)|(apply mt_;exact me_)|(apply ob0_;first|exact obc_|(exact of_decide_eq_true rfl))|(apply And.intro<;>(intro h;have hc:=h;(try exact nc1_ hc);(try exact nc2_ hc);(try exact nc3_ hc);(try exact nc4_ hc);try simp only [bs]at h))|(intro h;(try (unfold und at h;conv at h=>whnf));try simp only [bs]at h)|(apply wr0_;exact wrc_)|(apply wg0_;exact wgc_)|refine gKe (by assumption) ?_)
    all_goals ((try refine gKe (by assumption) ?_);(conv=>whnf))
    refine Or.inr (Or.inr ⟨[],[5,43],[],[],[0,1,41,42,82,83,84,85,86,87,88,89,90,91,92,93,94,95,96,97,98,99,100,101,102,103],[],?_⟩);conv=>whnf
    refine⟨fun(s:Int×Int×Unit) (_:Unit)=>∃ k:Nat,s.2.1=k∧k≤List.length (α:=TabT 39) arcs∧s.1=alA arcs l0 k,fun(s:Int×Int×Unit) _=>((List.length (α:=TabT 39) arcs:Nat)-s.2.1).toNat,?_⟩
    conv=>whnf
    refine Ini.mk ⟨0,rfl,Nat.zero_le _,rfl⟩ me_ ?_;rintro⟨(l1:Int),(k2:Int),_⟩ _ ⟨k2,hj1,hj2,hS1⟩;replace hj1:_=(k2:Int):=hj1;subst hj1;replace hS1:l1=alA arcs l0 k2:=hS1;replace hj2:k2≤List.length (α:=TabT 39) arcs:=hj2;refine gK fun K1 hK1=>?_
    by_cases hjl:k2<List.length (α:=TabT 39) arcs
    ·have hd3:decide ((k2:Int)<(List.length (α:=TabT 39) arcs:Nat))=true:=decide_eq_true (by omega)
     repeat' ((try refine gKe (by assumption) ?_);refine bc_ fun g_=>?_;(conv at g_=>(arg 1;whnf));refine g_ ?_;clear g_;first|(intro bq;cases bq;rotate_left;(focus (intro hbq;exact absurd (hbq rfl) (by omega)));intro _)|((fail_if_success (apply cH_));(fail_if_success (apply uR_));apply Or.inl)|(apply rn_;exact rm_;exact me_)|(apply mt_;exact me_)|(apply ob0_;first|exact obc_|(exact of_decide_eq_true rfl))|(apply And.intro<;>(intro h;have hc:=h;(try exact nc1_ hc);(try exact nc2_ hc);(try exact nc3_ hc);(try exact nc4_ hc);try simp only [bs]at h))|(intro h;(try (unfold und at h;conv at h=>whnf));try simp only [bs]at h)|(apply wr0_;exact wrc_)|(apply wg0_;exact wgc_)|refine gKe (by assumption) ?_)
     all_goals ((try refine gKe (by assumption) ?_);(conv=>whnf))
     ·refine⟨k2+1,rfl,hjl,?_⟩;exact(congrArg (fun x=>min x (arcA arcs k2).From) hS1).trans (alA_s1 (by assumption)).symm
     ·refine⟨k2+1,rfl,hjl,?_⟩;exact hS1.trans (alA_s0 (by assumption)).symm
    have hd3:decide ((k2:Int)<(List.length (α:=TabT 39) arcs:Nat))=false:=decide_eq_false (by omega)
    have ej:k2=List.length (α:=TabT 39) arcs:=Nat.le_antisymm hj2 (Nat.le_of_not_lt hjl);rw [ej]at hS1;rw [← hS1]at hcy;have hl1:0≤l1∧l1≤n:=by rw [hS1];exact alA_rng hgo hl0 _ (Nat.le_refl _)
    by_cases hln:l1=n
    ·have hd4:decide (l1=(n:Int))=true:=decide_eq_true hln
     repeat' ((try refine gKe (by assumption) ?_);refine bc_ fun g_=>?_;(conv at g_=>(arg 1;whnf));refine g_ ?_;clear g_;first|(intro bq;cases bq;rotate_left;(focus (intro hbq;exact absurd (hbq rfl) (by omega)));intro _)|((fail_if_success (apply cH_));(fail_if_success (apply uR_));apply Or.inl)|(apply rn_;exact rm_;exact me_)|(apply mt_;exact me_)|(apply ob0_;first|exact obc_|(exact of_decide_eq_true rfl))|(apply And.intro<;>(intro h;have hc:=h;(try exact nc1_ hc);(try exact nc2_ hc);(try exact nc3_ hc);(try exact nc4_ hc);try simp only [bs]at h))|(intro h;(try (unfold und at h;conv at h=>whnf));try simp only [bs]at h)|(apply wr0_;exact wrc_)|(apply wg0_;exact wgc_)|refine gKe (by assumption) ?_)
     all_goals ((try refine gKe (by assumption) ?_);(conv=>whnf))
     exact⟨Or.inl rfl,hcy.trans (if_pos hln)⟩
    have hd4:decide (l1=(n:Int))=false:=decide_eq_false hln;rw [if_neg hln]at hcy;have hrk:rOK l1 n:=⟨hl1.1,by omega⟩
    repeat' ((try refine gKe (by assumption) ?_);refine bc_ fun g_=>?_;(conv at g_=>(arg 1;whnf));refine g_ ?_;clear g_;first|(intro bq;cases bq;rotate_left;(focus (intro hbq;exact absurd (hbq rfl) (by omega)));intro _)|((fail_if_success (apply cH_));(fail_if_success (apply uR_));apply Or.inl)|(apply rn_;exact rm_;exact me_)|(apply mt_;exact me_)|(apply ob0_;first|(exact⟨hgo,hrk⟩)|exact obc_|(exact of_decide_eq_true rfl))|(apply And.intro<;>(intro h;have hc:=h;(try exact nc1_ hc);(try exact nc2_ hc);(try exact nc3_ hc);(try exact nc4_ hc);try simp only [bs]at h))|(intro h;(try (unfold und at h;conv at h=>whnf));try simp only [bs]at h)|(apply wr0_;exact wrc_)|(apply wg0_;exact wgc_)|refine gKe (by assumption) ?_)
    all_goals ((try refine gKe (by assumption) ?_);(conv=>whnf))
    generalize hB:search1 (n:Int) arcs l1=B at *;refine Or.inr (Or.inr ⟨[],[11,67,82,83,84,85,86,87,88,89,90,91,92,93,94,95,96,97,98,99,100,101,102,103],[(1000011,.lst (some true) 0 [])],[],[5,10,65,66],[],?_⟩);conv=>whnf
    refine⟨fun(s:List (TabT 0)×Int×Unit) (_:Unit)=>∃ k:Nat,s.2.1=k∧k≤List.length (α:=TabT 39) arcs∧s.1=beB B l1 arcs k,fun(s:List (TabT 0)×Int×Unit) _=>((List.length (α:=TabT 39) arcs:Nat)-s.2.1).toNat,?_⟩
    conv=>whnf
    refine Ini.mk ⟨0,rfl,Nat.zero_le _,rfl⟩ me_ ?_;rintro⟨(bb:List (TabT 0)),(k3:Int),_⟩ _ ⟨k3,hm1,hm2,hS2⟩;replace hm1:_=(k3:Int):=hm1;subst hm1;replace hS2:bb=beB B l1 arcs k3:=hS2;replace hm2:k3≤List.length (α:=TabT 39) arcs:=hm2;refine gK fun K2 hK2=>?_
    by_cases hml:k3<List.length (α:=TabT 39) arcs
    ·have hd5:decide ((k3:Int)<(List.length (α:=TabT 39) arcs:Nat))=true:=decide_eq_true (by omega)
     have hok:trOk B (gt 39 arcs (k3:Int).toNat).From:=by
       rw [← hB];obtain⟨a1,a2,_,_⟩:=hgo.2.2 k3 (by exact hml)
       exact search1_ok hgo hrk ⟨a1,a2⟩
     repeat' ((try refine gKe (by assumption) ?_);refine bc_ fun g_=>?_;(conv at g_=>(arg 1;whnf));refine g_ ?_;clear g_;first|(intro bq;cases bq;rotate_left;(focus (intro hbq;exact absurd (hbq rfl) (by omega)));intro _)|((fail_if_success (apply cH_));(fail_if_success (apply uR_));apply Or.inl)|(apply rn_;exact rm_;exact me_)|(apply mt_;exact me_)|(apply ob0_;first|(exact hok)|exact obc_|(exact of_decide_eq_true rfl))|(apply And.intro<;>(intro h;have hc:=h;(try exact nc1_ hc);(try exact nc2_ hc);(try exact nc3_ hc);(try exact nc4_ hc);try simp only [bs]at h))|(intro h;(try (unfold und at h;conv at h=>whnf));try simp only [bs]at h)|(apply wr0_;exact wrc_)|(apply wg0_;exact wgc_)|refine gKe (by assumption) ?_)
     all_goals ((try refine gKe (by assumption) ?_);(conv=>whnf))
     ·refine⟨k3+1,rfl,hml,?_⟩;exact hS2.trans (beB_0 (by assumption)).symm
     ·refine⟨k3+1,rfl,hml,?_⟩;exact(beB_1 (arcs:=arcs) (k:=k3) (by assumption) (by rw [← hS2];exact hc)).symm
     ·refine⟨k3+1,rfl,hml,?_⟩;exact hS2.trans (beB_2 (arcs:=arcs) (k:=k3) (by assumption) (by rw [← hS2];exact hc)).symm
    have hd5:decide ((k3:Int)<(List.length (α:=TabT 39) arcs:Nat))=false:=decide_eq_false (by omega)
    have em:k3=List.length (α:=TabT 39) arcs:=Nat.le_antisymm hm2 (Nat.le_of_not_lt hml);rw [em]at hS2
    repeat' ((try refine gKe (by assumption) ?_);refine bc_ fun g_=>?_;(conv at g_=>(arg 1;whnf));refine g_ ?_;clear g_;first|(intro bq;cases bq;rotate_left;(focus (intro hbq;exact absurd (hbq rfl) (by omega)));intro _)|((fail_if_success (apply cH_));(fail_if_success (apply uR_));apply Or.inl)|(apply rn_;exact rm_;exact me_)|(apply mt_;exact me_)|(apply ob0_;first|exact obc_|(exact of_decide_eq_true rfl))|(apply And.intro<;>(intro h;have hc:=h;(try exact nc1_ hc);(try exact nc2_ hc);(try exact nc3_ hc);(try exact nc4_ hc);try simp only [bs]at h))|(intro h;(try (unfold und at h;conv at h=>whnf));try simp only [bs]at h)|(apply wr0_;exact wrc_)|(apply wg0_;exact wgc_)|refine gKe (by assumption) ?_)
    all_goals ((try refine gKe (by assumption) ?_);(conv=>whnf))
    exact⟨Or.inl rfl,eqL_of (hS2.trans hcy.symm)⟩
 ·trivial
noncomputable def F_AD:Fact E0:=Fact.co [.un,.lst none 39 []] ⟨103,a_Bs,by unfold FnOK;kernel_rfl,o_DG⟩
end Go.SX
