/- A part of the proof (texts W1, W2, W3, W4). -/
import Derived.Test.YtobpljbkdffkbaaGreatP13
set_option linter.all false
set_option maxRecDepth 100000
namespace Go.Proofs.YtobpljbkdffkbaaGreat
open Go.RowKit Go.XK Go.LocateLaw
def PredC {α:Type} (g:Nat) (caps:List Value) (f:α→List Value) (p:α→Bool) (w0:World):Prop:=∀ x w,Ext w0 w→Calls Tryz.prog g ([Value.agg (f x).toArray]++caps).toArray w fun e w'=>e=.returned (.bool (p x))∧Ext w w'
theorem PredC.ext {α:Type} {g:Nat} {caps:List Value} {f:α→List Value} {p:α→Bool} {w0 w1:World} (h:PredC g caps f p w0) (he:Ext w0 w1):PredC g caps f p w1:=fun x w hx=>h x w (he.trans hx)
set_option maxRecDepth 100000 in
theorem node1_any (x:Sp) (p:Int) (b1:Nat) (w:World) (r1:Row w b1 3 [.int .i64 p]) :
   Calls Tryz.prog 88 [.agg (spC x).toArray,ptr b1].toArray w fun e w'=>e=.returned (.bool (inSp p x))∧Ext w w':=by
 refine calls_of Tryz.func88 rfl Tryz.ntmps88 rfl ?_;refine EC.seq ?_;refine EC.region (fun i=>[2,1].getD i 0) [0,1] rfl ?_
 refine ER.st rfl rfl rfl rfl (fun w1 h1=>Stp.box rfl (fun w2 h2 s2 r2=>⟨h2,?_⟩))
 refine ER.sil rfl rfl rfl rfl (Sil.assign rfl) ?_;refine ER.nil (fun w3 h3=>?_)
 refine AQ.then ?_;refine EC.seq ?_;refine EC.region (fun i=>[1,0,0,1,1,0,1,0,1,0,1,1,1,1].getD i 0) [0,1,2,3,4,5,6,7,8,9,10,11,12,13] rfl ?_
 refine ER.sil rfl rfl rfl rfl (Sil.fieldAddr Tryz.underlying65 rfl inf3 rfl) ?_;refine ER.ex rfl rfl rfl rfl (Exa.load flat3 rfl ((r2.ext h3).cell rfl)) ?_;refine ER.ex rfl rfl rfl rfl (Exa.load flat3 rfl ((r1.ext ((h1.trans h2).trans h3)).cell rfl)) ?_;refine ER.sil rfl rfl rfl rfl (Sil.leq rfl rfl) ?_;refine ER.sil rfl rfl rfl rfl (Sil.move rfl) ?_;refine ER.exG rfl rfl rfl rfl rfl rfl (fun hc=>Exa.load flat3 rfl ((r1.ext ((h1.trans h2).trans h3)).cell rfl)) ?_
 refine ER.silG rfl rfl rfl rfl rfl rfl (fun hc=>Sil.fieldAddr Tryz.underlying65 rfl inf3 rfl) ?_
 refine ER.exG rfl rfl rfl rfl rfl rfl (fun hc=>Exa.load flat3 (congrArg some (sel_eq hc _)) ((r2.ext h3).cell rfl)) ?_
 refine ER.silG rfl rfl rfl rfl rfl rfl (fun hc=>Sil.fieldAddr Tryz.underlying65 rfl inf3 rfl) ?_
 refine ER.exG rfl rfl rfl rfl rfl rfl (fun hc=>Exa.load flat3 (congrArg some (sel_eq hc _)) ((r2.ext h3).cell rfl)) ?_
 refine ER.silG rfl rfl rfl rfl rfl rfl (fun hc=>Sil.add (congrArg some (sel_eq hc _)) (congrArg some (sel_eq hc _))) ?_
 refine ER.silG rfl rfl rfl rfl rfl rfl (fun hc=>Sil.lss (congrArg some (sel_eq hc _)) (congrArg some (sel_eq hc _))) ?_
 refine ER.sil rfl rfl rfl rfl (Sil.pickAnd rfl rfl rfl) ?_;refine ER.sil rfl rfl rfl rfl (Sil.assign rfl) ?_;refine ER.nil (fun w4 h4=>?_)
 refine AQ.then ?_;refine EC.ret ?_;refine AQ.ret1 Tryz.results88 rfl ?_;exact⟨rfl,(((h1.trans h2).trans h3).trans h4)⟩
set_option maxRecDepth 100000 in
theorem index_spC (l:List Sp) (v:Value) (g:Nat) (caps:List Value) (p:Sp→Bool) (w:World) (hl:LR 2 spC w v l) (hg:FnOK Tryz.prog g) (hp:PredC g caps spC p w) :
   Calls Tryz.prog 87 [v,.func (.func g) #[] caps.toArray].toArray w fun e w'=>e=.returned (.int .i64 (idxI p l))∧Ext w w':=by
 have hm:=hl.max;refine calls_of Tryz.func87 rfl Tryz.ntmps87 rfl ?_;refine EC.seq ?_;refine EC.region (fun i=>[1].getD i 0) [0] rfl ?_
 refine ER.sil rfl rfl rfl rfl (Sil.assign rfl) ?_;refine ER.nil (fun w1 h1=>?_)
 refine AQ.then ?_;refine EC.seq ?_;refine EC.seq ?_;refine EC.region (fun i=>[1,1,1].getD i 0) [0,1,2] rfl ?_
 refine ER.sil rfl rfl rfl rfl (Sil.move rfl) ?_;refine ER.sil rfl rfl rfl rfl (Sil.lenR Tryz.underlying31 rfl (hl.isS)) ?_;refine ER.sil rfl rfl rfl rfl (Sil.move rfl) ?_;refine ER.nil (fun w2 h2=>?_)
 refine AQ.then ?_;refine EC.block ?_;refine EC.loop (σ:=Nat) (fun k=>[(0,v),(1,.func (.func g) #[] caps.toArray),(7,.int .i64 (l.length:Int)),(8,.int .i64 (k:Int))]) (fun k wr=>Ext w wr∧k≤l.length∧∀ j (h:j<l.length),j<k→p l[j]=false) (fun k=>l.length-k) 0 [0,1,7,8] rfl ?_ (fun k wr hF=>?_)
 ·exact⟨(h1.trans h2),Nat.zero_le _,fun j _ h=>absurd h (Nat.not_lt_zero j)⟩
 obtain⟨hE,hk,hok⟩:=hF;refine EC.seq ?_;refine EC.region (fun i=>[1].getD i 0) [0] rfl ?_
 refine ER.sil rfl rfl rfl rfl (Sil.lss rfl rfl) ?_;refine ER.nil (fun w3 h3=>?_)
 refine AQ.then ?_;refine EC.seq ?_;refine EC.cond rfl (fun hb0=>?_) (fun hb0=>?_)
 ·
   have hlt:k<l.length:=by have:=of_decide_eq_true hb0;omega
   refine EC.skip ?_;refine AQ.then ?_;refine EC.seq ?_;refine EC.block ?_;refine EC.seq ?_;refine EC.region (fun i=>[1,1].getD i 0) [0,1] rfl ?_
   refine ER.sil rfl rfl rfl rfl (Sil.move rfl) ?_;refine ER.sil rfl rfl rfl rfl (Sil.assign rfl) ?_;refine ER.nil (fun w4 h4=>?_)
   refine AQ.then ?_;refine EC.seq ?_;refine EC.region (fun i=>[1,1,1,1,0,0].getD i 0) [0,1,2,3,4,5] rfl ?_
   refine ER.sil rfl rfl rfl rfl (Sil.move rfl) ?_;refine ER.sil rfl rfl rfl rfl (Sil.move rfl) ?_;refine ER.sil rfl rfl rfl rfl (Sil.move rfl) ?_;refine ER.sil rfl rfl rfl rfl (Sil.indexR Tryz.underlying31 inf65 rfl rfl (hl.isE (by omega)) (by omega) (by omega)) ?_
   refine ER.ex rfl rfl rfl rfl (Exa.loadAgg (vs:=(spC (l[k]))) agg65 rfl ((hl.at hlt).ext ((hE.trans h3).trans h4))) ?_;refine ER.ex rfl rfl rfl rfl (Exa.callC hg rfl rfl (fun wx hx=>(hp l[k] wx (((hE.trans h3).trans h4).trans hx)))) ?_
   refine ER.nil (fun w5 h5=>?_)
   refine AQ.then ?_;refine EC.cond rfl (fun hb1=>?_) (fun hb1=>?_)
   ·
     refine EC.seq ?_;refine EC.region (fun i=>[1,1].getD i 0) [0,1] rfl ?_
     refine ER.sil rfl rfl rfl rfl (Sil.move rfl) ?_;refine ER.sil rfl rfl rfl rfl (Sil.assign rfl) ?_;refine ER.nil (fun w6 h6=>?_)
     refine AQ.then ?_;refine EC.ret ?_;refine AQ.blockRet ?_;refine AQ.thenRet ?_;refine AQ.thenRet ?_;refine AQ.blockRet ?_;refine AQ.thenRet ?_;refine AQ.ret1 Tryz.results87 rfl ?_;exact⟨by rw [idxI_hit hlt hb1 hok],((((hE.trans h3).trans h4).trans h5).trans h6)⟩
   ·
     refine EC.skip ?_;refine AQ.blockNormal ?_;refine AQ.then ?_;refine EC.region (fun i=>[1,1].getD i 0) [0,1] rfl ?_
     refine ER.sil rfl rfl rfl rfl (Sil.add rfl rfl) ?_;refine ER.sil rfl rfl rfl rfl (Sil.move rfl) ?_;refine ER.nil (fun w7 h7=>?_)
     refine AQ.round (k+1) [0,1,7,8] (by rw [← wrap_succ hlt hm];rfl) ⟨((((hE.trans h3).trans h4).trans h5).trans h7),hlt,fun j h hj=>?_⟩ (by omega)
     rcases Nat.lt_or_eq_of_le (Nat.le_of_lt_succ hj)with hj|rfl
     ·exact hok j h hj
     ·exact hb1
 ·
   refine EC.exit ?_;refine AQ.thenExit ?_;refine AQ.thenExit ?_;refine AQ.blockHit ?_;refine AQ.then ?_;refine EC.seq ?_;refine EC.region (fun i=>[1].getD i 0) [0] rfl ?_
   refine ER.sil rfl rfl rfl rfl (Sil.assign rfl) ?_;refine ER.nil (fun w8 h8=>?_)
   refine AQ.then ?_;refine EC.ret ?_;refine AQ.ret1 Tryz.results87 rfl ?_;have hge:k=l.length:=by have:=of_decide_eq_false hb0;omega
   subst hge;exact⟨by rw [idxI_miss fun j h=>hok j h h],((hE.trans h3).trans h8)⟩
set_option maxRecDepth 100000 in
theorem node_any (cs:List Value) (inf:Inf) (p:Int) (w:World) (hi:InfC w cs inf) :
   Calls Tryz.prog 26 [.agg cs.toArray,.int .i64 p].toArray w fun e w'=>e=.returned (.tuple #[.agg (spC (spZ (nodeO inf p))).toArray,.bool (nodeO inf p).isSome])∧Ext w w':=by
 obtain⟨ev,hev,hel⟩:=hi.2.2.2.1;have hm:=hel.max;refine calls_of Tryz.func26 rfl Tryz.ntmps26 rfl ?_;refine EC.seq ?_;refine EC.region (fun i=>[2,2,2,1].getD i 0) [0,1,2,3] rfl ?_
 refine ER.st rfl rfl rfl rfl (fun w1 h1=>Stp.box rfl (fun w2 h2 s2 r2=>⟨h2,?_⟩))
 refine ER.st rfl rfl rfl rfl (fun w3 h3=>Stp.box rfl (fun w4 h4 s4 r4=>⟨h4,?_⟩))
 refine ER.st rfl rfl rfl rfl (fun w5 h5=>Stp.alloc inf65 (fun w6 h6 s6 r6=>⟨h6,?_⟩))
 refine ER.sil rfl rfl rfl rfl (Sil.assign rfl) ?_;refine ER.nil (fun w7 h7=>?_)
 refine AQ.then ?_;refine EC.seq ?_;refine EC.region (fun i=>[1,1,0,1,0,1].getD i 0) [0,1,2,3,4,5] rfl ?_
 refine ER.sil rfl rfl rfl rfl (Sil.fieldAddr Tryz.underlying39 rfl inf36 rfl) ?_;refine ER.sil rfl rfl rfl rfl (Sil.fieldAddr Tryz.underlying36 rfl inf31 rfl) ?_;refine ER.ex rfl rfl rfl rfl (Exa.load flat31 rfl (((r2.ext ((((h3.trans h4).trans h5).trans h6).trans h7))).cell hev)) ?_;refine ER.sil rfl rfl rfl rfl (Sil.makeFunc rfl rfl) ?_;refine ER.ex rfl rfl rfl rfl (Exa.call fok87 rfl rfl (fun wx hx=>(index_spC inf.ends ev 88 [ptr w3.heap.size] (inSp p) wx (hel.ext (((((((h1.trans h2).trans h3).trans h4).trans h5).trans h6).trans h7).trans hx)) fok88 (fun x w9 h9=>node1_any x p w3.heap.size w9 (((r4.ext ((h5.trans h6).trans h7))).ext (hx.trans h9)))))) ?_
 refine ER.sil rfl rfl rfl rfl (Sil.assign rfl) ?_;refine ER.nil (fun w8 h8=>?_)
 refine AQ.then ?_;refine EC.seq ?_;refine EC.seq ?_;refine EC.region (fun i=>[1,1].getD i 0) [0,1] rfl ?_
 refine ER.sil rfl rfl rfl rfl (Sil.move rfl) ?_;refine ER.sil rfl rfl rfl rfl (Sil.lss rfl rfl) ?_;refine ER.nil (fun w9 h9=>?_)
 refine AQ.then ?_;refine EC.cond rfl (fun hb0=>?_) (fun hb0=>?_)
 ·
   have hno:nodeO inf p=none:=idxI_neg (of_decide_eq_true hb0);refine EC.seq ?_;refine EC.region (fun i=>[1,3,1].getD i 0) [0,1,2] rfl ?_
   refine ER.sil rfl rfl rfl rfl (Sil.build rfl rfl) ?_;refine ER.bar rfl rfl rfl rfl (fun w10 h10=>Stp.store (by kernel_rfl) rfl rfl (r6.ext (((h7.trans h8).trans h9).trans h10)) rfl rfl (fun w11 u11 r11=>?_))
   have e11:=(((((h5.trans h6).trans h7).trans h8).trans h9).trans h10).upd u11 h5.size;refine ER.sil rfl rfl rfl rfl (Sil.assign rfl) ?_;refine ER.nil (fun w12 h12=>?_)
   refine AQ.then ?_;refine EC.ret ?_;refine AQ.thenRet ?_;refine AQ.retCT Tryz.results26 rfl rfl (LV.agg (r11.ext h12) agg65) ?_;exact⟨by rw [hno];rfl,(((((h1.trans h2).trans h3).trans h4).trans e11).trans h12)⟩
 ·
   obtain⟨i,hil,hix,hfi⟩:=idxI_ge (of_decide_eq_false hb0);have hfi:nodeO inf p=some inf.ends[i]:=hfi;rw [hix];refine EC.skip ?_;refine AQ.then ?_;refine EC.seq ?_;refine EC.region (fun i=>[1,1,0,1,1,0,3,1].getD i 0) [0,1,2,3,4,5,6,7] rfl ?_
   refine ER.sil rfl rfl rfl rfl (Sil.fieldAddr Tryz.underlying39 rfl inf36 rfl) ?_;refine ER.sil rfl rfl rfl rfl (Sil.fieldAddr Tryz.underlying36 rfl inf31 rfl) ?_;refine ER.ex rfl rfl rfl rfl (Exa.load flat31 rfl (((r2.ext ((((((h3.trans h4).trans h5).trans h6).trans h7).trans h8).trans h9))).cell hev)) ?_;refine ER.sil rfl rfl rfl rfl (Sil.move rfl) ?_;refine ER.sil rfl rfl rfl rfl (Sil.indexR Tryz.underlying31 inf65 rfl rfl (hel.isE (by omega)) (by omega) (by omega)) ?_
   refine ER.ex rfl rfl rfl rfl (Exa.loadAgg (vs:=(spC (inf.ends[i]))) agg65 rfl ((hel.at hil).ext ((((((((h1.trans h2).trans h3).trans h4).trans h5).trans h6).trans h7).trans h8).trans h9))) ?_;refine ER.bar rfl rfl rfl rfl (fun w13 h13=>Stp.store (by kernel_rfl) rfl rfl (r6.ext (((h7.trans h8).trans h9).trans h13)) rfl rfl (fun w14 u14 r14=>?_))
   have e14:=(((((h5.trans h6).trans h7).trans h8).trans h9).trans h13).upd u14 h5.size;refine ER.sil rfl rfl rfl rfl (Sil.assign rfl) ?_;refine ER.nil (fun w15 h15=>?_)
   refine AQ.then ?_;refine EC.ret ?_;refine AQ.retCT Tryz.results26 rfl rfl (LV.agg (r14.ext h15) agg65) ?_;exact⟨by rw [hfi];rfl,(((((h1.trans h2).trans h3).trans h4).trans e14).trans h15)⟩
end Go.Proofs.YtobpljbkdffkbaaGreat
namespace Go.Proofs.YtobpljbkdffkbaaGreat
open Go.RowKit Go.XK Go.LocateLaw
set_option maxRecDepth 100000 in
theorem at1_any (y p:Int) (s:Sp) (b1 b2:Nat) (w:World) (q1:Row w b1 65 (spC s)) (q2:Row w b2 3 [.int .i64 p]) :
   Calls Tryz.prog 27 [.int .i64 y,ptr b1,ptr b2].toArray w fun e w'=>e=.returned (.bool (decide (s.at_≤y)&&decide (y≤p)))∧Ext w w':=by
 refine calls_of Tryz.func27 rfl Tryz.ntmps27 rfl ?_;refine EC.seq ?_;refine EC.region (fun i=>[1].getD i 0) [0] rfl ?_
 refine ER.sil rfl rfl rfl rfl (Sil.assign rfl) ?_;refine ER.nil (fun w1 h1=>?_)
 refine AQ.then ?_;refine EC.seq ?_;refine EC.region (fun i=>[1,0,1,1,1,1,0,1,1,1].getD i 0) [0,1,2,3,4,5,6,7,8,9] rfl ?_
 refine ER.sil rfl rfl rfl rfl (Sil.fieldAddr Tryz.underlying65 rfl inf3 rfl) ?_;refine ER.ex rfl rfl rfl rfl (Exa.load flat3 rfl ((q1.ext h1).cell rfl)) ?_;refine ER.sil rfl rfl rfl rfl (Sil.move rfl) ?_;refine ER.sil rfl rfl rfl rfl (Sil.leq rfl rfl) ?_;refine ER.sil rfl rfl rfl rfl (Sil.move rfl) ?_;refine ER.silG rfl rfl rfl rfl rfl rfl (fun hc=>Sil.move rfl) ?_
 refine ER.exG rfl rfl rfl rfl rfl rfl (fun hc=>Exa.load flat3 rfl ((q2.ext h1).cell rfl)) ?_
 refine ER.silG rfl rfl rfl rfl rfl rfl (fun hc=>Sil.leq (congrArg some (sel_eq hc _)) (congrArg some (sel_eq hc _))) ?_
 refine ER.sil rfl rfl rfl rfl (Sil.pickAnd rfl rfl rfl) ?_;refine ER.sil rfl rfl rfl rfl (Sil.assign rfl) ?_;refine ER.nil (fun w2 h2=>?_)
 refine AQ.then ?_;refine EC.ret ?_;refine AQ.ret1 Tryz.results27 rfl ?_;exact⟨rfl,(h1.trans h2)⟩
set_option maxRecDepth 100000 in
theorem at2_any (x:Mk) (s:Sp) (p:Int) (b0 b1 b2:Nat) (w:World) (q0:Row w b0 68 [.func (.func 27) #[] #[ptr b1,ptr b2]]) (q1:Row w b1 65 (spC s)) (q2:Row w b2 3 [.int .i64 p]) :
   Calls Tryz.prog 30 [.agg (mkC x).toArray,ptr b0].toArray w fun e w'=>e=.returned (.bool (mkP s.at_ p x))∧Ext w w':=by
 refine calls_of Tryz.func30 rfl Tryz.ntmps30 rfl ?_;refine EC.seq ?_;refine EC.region (fun i=>[2,1].getD i 0) [0,1] rfl ?_
 refine ER.st rfl rfl rfl rfl (fun w1 h1=>Stp.box rfl (fun w2 h2 s2 r2=>⟨h2,?_⟩))
 refine ER.sil rfl rfl rfl rfl (Sil.assign rfl) ?_;refine ER.nil (fun w3 h3=>?_)
 refine AQ.then ?_;refine EC.seq ?_;refine EC.region (fun i=>[1,0,1,1,0,1,0,0,1,1].getD i 0) [0,1,2,3,4,5,6,7,8,9] rfl ?_
 refine ER.sil rfl rfl rfl rfl (Sil.fieldAddr Tryz.underlying53 rfl inf3 rfl) ?_;refine ER.ex rfl rfl rfl rfl (Exa.load flat3 rfl ((r2.ext h3).cell rfl)) ?_;refine ER.sil rfl rfl rfl rfl (Sil.eql rfl rfl) ?_;refine ER.sil rfl rfl rfl rfl (Sil.move rfl) ?_;refine ER.exG rfl rfl rfl rfl rfl rfl (fun hc=>Exa.load flat68 rfl ((q0.ext ((h1.trans h2).trans h3)).cell rfl)) ?_
 refine ER.silG rfl rfl rfl rfl rfl rfl (fun hc=>Sil.fieldAddr Tryz.underlying53 rfl inf3 rfl) ?_
 refine ER.exG rfl rfl rfl rfl rfl rfl (fun hc=>Exa.load flat3 (congrArg some (sel_eq hc _)) ((r2.ext h3).cell rfl)) ?_
 refine ER.exG rfl rfl rfl rfl rfl rfl (fun hc=>Exa.callC fok27 (congrArg some (sel_eq hc _)) (evs_cons (congrArg some (sel_eq hc _)) evs_nil) (fun wx hx=>(at1_any x.at_ p s b1 b2 wx (q1.ext (((h1.trans h2).trans h3).trans hx)) (q2.ext (((h1.trans h2).trans h3).trans hx))))) ?_
 refine ER.sil rfl rfl rfl rfl (Sil.pickAnd rfl rfl rfl) ?_;refine ER.sil rfl rfl rfl rfl (Sil.assign rfl) ?_;refine ER.nil (fun w4 h4=>?_)
 refine AQ.then ?_;refine EC.ret ?_;refine AQ.ret1 Tryz.results30 rfl ?_;exact⟨rfl,(((h1.trans h2).trans h3).trans h4)⟩
set_option maxRecDepth 100000 in
theorem at3_any (x:Ln) (s:Sp) (p:Int) (b0 b1 b2:Nat) (w:World) (q0:Row w b0 68 [.func (.func 27) #[] #[ptr b1,ptr b2]]) (q1:Row w b1 65 (spC s)) (q2:Row w b2 3 [.int .i64 p]) :
   Calls Tryz.prog 32 [.agg (lnC x).toArray,ptr b0].toArray w fun e w'=>e=.returned (.bool (lnP s.at_ p x))∧Ext w w':=by
 refine calls_of Tryz.func32 rfl Tryz.ntmps32 rfl ?_;refine EC.seq ?_;refine EC.region (fun i=>[2,1].getD i 0) [0,1] rfl ?_
 refine ER.st rfl rfl rfl rfl (fun w1 h1=>Stp.box rfl (fun w2 h2 s2 r2=>⟨h2,?_⟩))
 refine ER.sil rfl rfl rfl rfl (Sil.assign rfl) ?_;refine ER.nil (fun w3 h3=>?_)
 refine AQ.then ?_;refine EC.seq ?_;refine EC.region (fun i=>[0,1,0,0,1].getD i 0) [0,1,2,3,4] rfl ?_
 refine ER.ex rfl rfl rfl rfl (Exa.load flat68 rfl ((q0.ext ((h1.trans h2).trans h3)).cell rfl)) ?_;refine ER.sil rfl rfl rfl rfl (Sil.fieldAddr Tryz.underlying43 rfl inf3 rfl) ?_;refine ER.ex rfl rfl rfl rfl (Exa.load flat3 rfl ((r2.ext h3).cell rfl)) ?_;refine ER.ex rfl rfl rfl rfl (Exa.callC fok27 rfl rfl (fun wx hx=>(at1_any x.at_ p s b1 b2 wx (q1.ext (((h1.trans h2).trans h3).trans hx)) (q2.ext (((h1.trans h2).trans h3).trans hx))))) ?_
 refine ER.sil rfl rfl rfl rfl (Sil.assign rfl) ?_;refine ER.nil (fun w4 h4=>?_)
 refine AQ.then ?_;refine EC.ret ?_;refine AQ.ret1 Tryz.results32 rfl ?_;exact⟨rfl,(((h1.trans h2).trans h3).trans h4)⟩
set_option maxRecDepth 100000 in
theorem at4_any (x:Il) (p:Int) (b1:Nat) (w:World) (q1:Row w b1 3 [.int .i64 p]) :
   Calls Tryz.prog 35 [.agg (ilC x).toArray,ptr b1].toArray w fun e w'=>e=.returned (.bool (ilP p x))∧Ext w w':=by
 refine calls_of Tryz.func35 rfl Tryz.ntmps35 rfl ?_;refine EC.seq ?_;refine EC.region (fun i=>[2,1].getD i 0) [0,1] rfl ?_
 refine ER.st rfl rfl rfl rfl (fun w1 h1=>Stp.box rfl (fun w2 h2 s2 r2=>⟨h2,?_⟩))
 refine ER.sil rfl rfl rfl rfl (Sil.assign rfl) ?_;refine ER.nil (fun w3 h3=>?_)
 refine AQ.then ?_;refine EC.seq ?_;refine EC.region (fun i=>[1,0,0,1,1,0,1,0,1,1,1].getD i 0) [0,1,2,3,4,5,6,7,8,9,10] rfl ?_
 refine ER.sil rfl rfl rfl rfl (Sil.fieldAddr Tryz.underlying57 rfl inf3 rfl) ?_;refine ER.ex rfl rfl rfl rfl (Exa.load flat3 rfl ((r2.ext h3).cell rfl)) ?_;refine ER.ex rfl rfl rfl rfl (Exa.load flat3 rfl ((q1.ext ((h1.trans h2).trans h3)).cell rfl)) ?_;refine ER.sil rfl rfl rfl rfl (Sil.leq rfl rfl) ?_;refine ER.sil rfl rfl rfl rfl (Sil.move rfl) ?_;refine ER.exG rfl rfl rfl rfl rfl rfl (fun hc=>Exa.load flat3 rfl ((q1.ext ((h1.trans h2).trans h3)).cell rfl)) ?_
 refine ER.silG rfl rfl rfl rfl rfl rfl (fun hc=>Sil.fieldAddr Tryz.underlying57 rfl inf3 rfl) ?_
 refine ER.exG rfl rfl rfl rfl rfl rfl (fun hc=>Exa.load flat3 (congrArg some (sel_eq hc _)) ((r2.ext h3).cell rfl)) ?_
 refine ER.silG rfl rfl rfl rfl rfl rfl (fun hc=>Sil.lss (congrArg some (sel_eq hc _)) (congrArg some (sel_eq hc _))) ?_
 refine ER.sil rfl rfl rfl rfl (Sil.pickAnd rfl rfl rfl) ?_;refine ER.sil rfl rfl rfl rfl (Sil.assign rfl) ?_;refine ER.nil (fun w4 h4=>?_)
 refine AQ.then ?_;refine EC.ret ?_;refine AQ.ret1 Tryz.results35 rfl ?_;exact⟨rfl,(((h1.trans h2).trans h3).trans h4)⟩
set_option maxRecDepth 100000 in
theorem find1_any (x:Mk) (s:ByteArray) (b1:Nat) (w:World) (q1:Row w b1 9 [.string s]) :
   Calls Tryz.prog 37 [.agg (mkC x).toArray,ptr b1].toArray w fun e w'=>e=.returned (.bool (fnP s x))∧Ext w w':=by
 refine calls_of Tryz.func37 rfl Tryz.ntmps37 rfl ?_;refine EC.seq ?_;refine EC.region (fun i=>[2,1].getD i 0) [0,1] rfl ?_
 refine ER.st rfl rfl rfl rfl (fun w1 h1=>Stp.box rfl (fun w2 h2 s2 r2=>⟨h2,?_⟩))
 refine ER.sil rfl rfl rfl rfl (Sil.assign rfl) ?_;refine ER.nil (fun w3 h3=>?_)
 refine AQ.then ?_;refine EC.seq ?_;refine EC.region (fun i=>[1,0,1,1,1,0,0,1,1,1].getD i 0) [0,1,2,3,4,5,6,7,8,9] rfl ?_
 refine ER.sil rfl rfl rfl rfl (Sil.fieldAddr Tryz.underlying53 rfl inf3 rfl) ?_;refine ER.ex rfl rfl rfl rfl (Exa.load flat3 rfl ((r2.ext h3).cell rfl)) ?_;refine ER.sil rfl rfl rfl rfl (Sil.eql rfl rfl) ?_;refine ER.sil rfl rfl rfl rfl (Sil.move rfl) ?_;refine ER.silG rfl rfl rfl rfl rfl rfl (fun hc=>Sil.fieldAddr Tryz.underlying53 rfl inf9 rfl) ?_
 refine ER.exG rfl rfl rfl rfl rfl rfl (fun hc=>Exa.load flat9 (congrArg some (sel_eq hc _)) ((r2.ext h3).cell rfl)) ?_
 refine ER.exG rfl rfl rfl rfl rfl rfl (fun hc=>Exa.load flat9 rfl ((q1.ext ((h1.trans h2).trans h3)).cell rfl)) ?_
 refine ER.silG rfl rfl rfl rfl rfl rfl (fun hc=>Sil.seql (congrArg some (sel_eq hc _)) (congrArg some (sel_eq hc _))) ?_
 refine ER.sil rfl rfl rfl rfl (Sil.pickAnd rfl rfl rfl) ?_;refine ER.sil rfl rfl rfl rfl (Sil.assign rfl) ?_;refine ER.nil (fun w4 h4=>?_)
 refine AQ.then ?_;refine EC.ret ?_;refine AQ.ret1 Tryz.results37 rfl ?_;exact⟨rfl,(((h1.trans h2).trans h3).trans h4)⟩
set_option maxRecDepth 100000 in
theorem of1_any (x:Ln) (f:ByteArray) (n:Int) (b1 b2:Nat) (w:World) (q1:Row w b1 9 [.string f]) (q2:Row w b2 3 [.int .i64 n]) :
   Calls Tryz.prog 23 [.agg (lnC x).toArray,ptr b1,ptr b2].toArray w fun e w'=>e=.returned (.bool (lnOf f n x))∧Ext w w':=by
 refine calls_of Tryz.func23 rfl Tryz.ntmps23 rfl ?_;refine EC.seq ?_;refine EC.region (fun i=>[2,1].getD i 0) [0,1] rfl ?_
 refine ER.st rfl rfl rfl rfl (fun w1 h1=>Stp.box rfl (fun w2 h2 s2 r2=>⟨h2,?_⟩))
 refine ER.sil rfl rfl rfl rfl (Sil.assign rfl) ?_;refine ER.nil (fun w3 h3=>?_)
 refine AQ.then ?_;refine EC.seq ?_;refine EC.region (fun i=>[1,0,0,1,1,1,0,0,1,1,1].getD i 0) [0,1,2,3,4,5,6,7,8,9,10] rfl ?_
 refine ER.sil rfl rfl rfl rfl (Sil.fieldAddr Tryz.underlying43 rfl inf9 rfl) ?_;refine ER.ex rfl rfl rfl rfl (Exa.load flat9 rfl ((r2.ext h3).cell rfl)) ?_;refine ER.ex rfl rfl rfl rfl (Exa.load flat9 rfl ((q1.ext ((h1.trans h2).trans h3)).cell rfl)) ?_;refine ER.sil rfl rfl rfl rfl (Sil.seql rfl rfl) ?_;refine ER.sil rfl rfl rfl rfl (Sil.move rfl) ?_;refine ER.silG rfl rfl rfl rfl rfl rfl (fun hc=>Sil.fieldAddr Tryz.underlying43 rfl inf3 rfl) ?_
 refine ER.exG rfl rfl rfl rfl rfl rfl (fun hc=>Exa.load flat3 (congrArg some (sel_eq hc _)) ((r2.ext h3).cell rfl)) ?_
 refine ER.exG rfl rfl rfl rfl rfl rfl (fun hc=>Exa.load flat3 rfl ((q2.ext ((h1.trans h2).trans h3)).cell rfl)) ?_
 refine ER.silG rfl rfl rfl rfl rfl rfl (fun hc=>Sil.eql (congrArg some (sel_eq hc _)) (congrArg some (sel_eq hc _))) ?_
 refine ER.sil rfl rfl rfl rfl (Sil.pickAnd rfl rfl rfl) ?_;refine ER.sil rfl rfl rfl rfl (Sil.assign rfl) ?_;refine ER.nil (fun w4 h4=>?_)
 refine AQ.then ?_;refine EC.ret ?_;refine AQ.ret1 Tryz.results23 rfl ?_;exact⟨rfl,(((h1.trans h2).trans h3).trans h4)⟩
end Go.Proofs.YtobpljbkdffkbaaGreat
namespace Go.Proofs.YtobpljbkdffkbaaGreat
open Go.RowKit Go.XK Go.LocateLaw
structure SomS where
 k:Nat
 S:Nat→Prop
set_option maxRecDepth 100000 in
theorem some_mkC_walk (ys:List Mk) (v:Value) (g:Nat) (caps:List Value) (p:Mk→Bool) (w00:World) (b1 b2:Nat) (w:World) (hx:Ext w00 w) (hl:LR 4 mkC w00 v ys) (hg:FnOK Tryz.prog g) (hp:PredC g caps mkC p w00) (ra:Row w b1 29 [v]) (rb:Row w b2 74 [.func (.func g) #[] caps.toArray])
   (l:Nat) (J:Nat→(Nat→Prop)→World→Prop) (X:(Nat→Prop)→World→Prop) (stJ:∀ k,Stays w.heap.size (J k)) (stX:Stays w.heap.size X) (bJ:∀ k S W,J k S W→∀ b,S b→b<W.heap.size) (hy:HY Tryz.prog l J X ((ys.filter p).map fun x=>[Value.agg (mkC x).toArray]))
   (S:Nat→Prop) (hS:∀ b,(b<w00.heap.size∨b=b1∨b=b2)→¬ S b) (hSw:∀ b,S b→b<w.heap.size) (h0:It S w (J 0) S w) :
   Calls Tryz.prog 89 [.func (.yield l) #[] #[],ptr b1,ptr b2].toArray w fun e w'=>∃ v S',e=.returned v∧Mod S w w'∧(∀ b,b<w.heap.size→S' b→S b)∧(J ((ys.filter p).map fun x=>[Value.agg (mkC x).toArray]).length S' w'∨X S' w'):=by
 have hm:=hl.max;refine calls_of Tryz.func89 rfl Tryz.ntmps89 rfl ?_;refine EC.seq ?_;refine EC.region (fun i=>[0,1,1].getD i 0) [0,1,2] rfl ?_
 refine ER.ex rfl rfl rfl rfl (Exa.load flat29 rfl (ra.cell rfl)) ?_;refine ER.sil rfl rfl rfl rfl (Sil.lenR Tryz.underlying29 rfl (hl.isS)) ?_;refine ER.sil rfl rfl rfl rfl (Sil.move rfl) ?_;refine ER.nil (fun w1 h1=>?_)
 refine AQ.then ?_;refine EC.block ?_;refine EC.loop (σ:=SomS) (fun q=>[(0,.func (.yield l) #[] #[]),(1,ptr b1),(2,ptr b2),(6,v),(7,.int .i64 (ys.length:Int)),(8,.int .i64 (q.k:Int))]) (fun q wr=>It S w (J ((ys.take q.k).filter p).length) q.S wr∧q.k≤ys.length) (fun q=>ys.length-q.k) ⟨0,S⟩ [0,1,2,6,7,8] rfl ?_ (fun q wr hF=>?_)
 ·exact⟨h0.ext (stJ 0) h1,Nat.zero_le _⟩
 obtain⟨hI,hk⟩:=hF;have hE:=Ext.refl wr;have hw0:=hI.base hx (fun b hb=>hS b (.inl hb))
 have q2:=hI.md.row rb (hS _ (.inr (.inr rfl)));refine EC.seq ?_;refine EC.region (fun i=>[1].getD i 0) [0] rfl ?_
 refine ER.sil rfl rfl rfl rfl (Sil.lss rfl rfl) ?_;refine ER.nil (fun w2 h2=>?_)
 refine AQ.then ?_;refine EC.seq ?_;refine EC.cond rfl (fun hb0=>?_) (fun hb0=>?_)
 ·
   have hlt:q.k<ys.length:=by have:=of_decide_eq_true hb0;omega
   refine EC.skip ?_;refine AQ.then ?_;refine EC.seq ?_;refine EC.block ?_;refine EC.seq ?_;refine EC.region (fun i=>[1,0,2,3].getD i 0) [0,1,2,3] rfl ?_
   refine ER.sil rfl rfl rfl rfl (Sil.indexR Tryz.underlying29 inf53 rfl rfl (hl.isE (by omega)) (by omega) (by omega)) ?_
   refine ER.ex rfl rfl rfl rfl (Exa.loadAgg (vs:=(mkC (ys[q.k]))) agg53 rfl ((hl.at hlt).ext (hw0.trans (hE.trans h2)))) ?_;refine ER.st rfl rfl rfl rfl (fun w3 h3=>Stp.alloc inf53 (fun w4 h4 s4 r4=>⟨h4,?_⟩))
   refine ER.bar rfl rfl rfl rfl (fun w5 h5=>Stp.store (by kernel_rfl) rfl rfl (r4.ext h5) rfl rfl (fun w6 u6 r6=>?_))
   have e6:=((h3.trans h4).trans h5).upd u6 h3.size;refine ER.nil (fun w7 h7=>?_)
   refine AQ.then ?_;refine EC.seq ?_;cases hsp3:p ys[q.k]
   ·
     refine EC.region (fun i=>[0,0,0,1,1,0,3,1,1].getD i 0) [0,1,2,3,4,5,6,7,8] rfl ?_
     refine ER.ex rfl rfl rfl rfl (Exa.load flat74 rfl ((q2.ext (((hE.trans h2).trans e6).trans h7)).cell rfl)) ?_;refine ER.ex rfl rfl rfl rfl (Exa.loadAgg (vs:=(mkC (ys[q.k]))) agg53 rfl ((r6.ext h7).at)) ?_;refine ER.ex rfl rfl rfl rfl (Exa.callC hg rfl rfl (fun wx hx=>(hp ys[q.k] wx (hw0.trans ((((hE.trans h2).trans e6).trans h7).trans hx))))) ?_
     refine ER.sil rfl rfl rfl rfl (Sil.move rfl) ?_;refine ER.skipG rfl rfl rfl rfl (by rw [hsp3];rfl) rfl ?_
     refine ER.skipG rfl rfl rfl rfl (by rw [hsp3];rfl) rfl ?_
     refine ER.skipG rfl rfl rfl rfl (by rw [hsp3];rfl) rfl ?_
     refine ER.skipG rfl rfl rfl rfl (by rw [hsp3];rfl) rfl ?_
     refine ER.sil rfl rfl rfl rfl (Sil.pick rfl rfl rfl) ?_;rw [hsp3];refine ER.nil (fun w8 h8=>?_)
     refine AQ.then ?_;refine EC.cond rfl (fun hb1=>?_) (fun hb1=>?_)
     ·
       cases hb1
     ·
       refine EC.skip ?_;refine AQ.blockNormal ?_;refine AQ.then ?_;refine EC.region (fun i=>[1,1].getD i 0) [0,1] rfl ?_
       refine ER.sil rfl rfl rfl rfl (Sil.add rfl rfl) ?_;refine ER.sil rfl rfl rfl rfl (Sil.move rfl) ?_;refine ER.nil (fun w9 h9=>?_)
       exact AQ.round ⟨q.k+1,q.S⟩ [0,1,2,6,7,8] (by rw [← wrap_succ hlt hm];rfl) ⟨by simp only [filt_no hlt hsp3];exact hI.ext (stJ _) (((((hE.trans h2).trans e6).trans h7).trans h8).trans h9),hlt⟩ (by simp only;omega)
   ·
     refine EC.region (fun i=>[0,0,0,1,1,0,3,1,1].getD i 0) [0,1,2,3,4,5,6,7,8] rfl ?_
     refine ER.ex rfl rfl rfl rfl (Exa.load flat74 rfl ((q2.ext (((hE.trans h2).trans e6).trans h7)).cell rfl)) ?_;refine ER.ex rfl rfl rfl rfl (Exa.loadAgg (vs:=(mkC (ys[q.k]))) agg53 rfl ((r6.ext h7).at)) ?_;refine ER.ex rfl rfl rfl rfl (Exa.callC hg rfl rfl (fun wx hx=>(hp ys[q.k] wx (hw0.trans ((((hE.trans h2).trans e6).trans h7).trans hx))))) ?_
     refine ER.sil rfl rfl rfl rfl (Sil.move rfl) ?_;refine ER.silD rfl rfl rfl rfl (by rw [hsp3];rfl) rfl rfl (Sil.move rfl) ?_
     refine ER.exD rfl rfl rfl rfl (by rw [hsp3];rfl) rfl rfl (Exa.loadAgg (vs:=(mkC (ys[q.k]))) agg53 rfl ((r6.ext h7).at)) ?_
     have hci:=filt_lt hlt hsp3;refine ER.barG rfl rfl rfl rfl (by rw [hsp3];rfl) rfl rfl (fun w10 h10=>Stp.yield rfl rfl (Yields.mono ((hI.ext (stJ _) ((((hE.trans h2).trans e6).trans h7).trans h10)).yields hy (i:=((ys.take q.k).filter p).length) (by rw [List.length_map];exact hci) (by rw [List.getElem_map,filt_get hlt hsp3 hci])) ?_))
     rintro _ w11 ⟨S2,k11,n11,c,rfl,hct,hcf⟩;refine ER.silD rfl rfl rfl rfl (by rw [hsp3];rfl) rfl rfl (Sil.not rfl) ?_
     refine ER.sil rfl rfl rfl rfl (Sil.pick rfl rfl rfl) ?_;rw [hsp3];refine ER.nil (fun w12 h12=>?_)
     refine AQ.then ?_;refine EC.cond rfl (fun hb2=>?_) (fun hb2=>?_)
     ·
       refine EC.ret ?_;refine AQ.blockRet ?_;refine AQ.thenRet ?_;refine AQ.thenRet ?_;refine AQ.blockRet ?_;refine AQ.ret0' Tryz.results89 ?_;exact It.stop rfl ((hcf (by simpa using hb2)).ext stX h12)
     ·
       have hI2:=hct (by simpa using hb2)
       refine EC.skip ?_;refine AQ.blockNormal ?_;refine AQ.then ?_;refine EC.region (fun i=>[1,1].getD i 0) [0,1] rfl ?_
       refine ER.sil rfl rfl rfl rfl (Sil.add rfl rfl) ?_;refine ER.sil rfl rfl rfl rfl (Sil.move rfl) ?_;refine ER.nil (fun w13 h13=>?_)
       exact AQ.round ⟨q.k+1,S2⟩ [0,1,2,6,7,8] (by rw [← wrap_succ hlt hm];rfl) ⟨by simp only [filt_yes hlt hsp3,List.length_append,List.length_singleton];exact hI2.ext (stJ _) (h12.trans h13),hlt⟩ (by simp only;omega)
 ·
   refine EC.exit ?_;refine AQ.thenExit ?_;refine AQ.thenExit ?_;refine AQ.blockHit ?_;refine AQ.ret0 Tryz.results89 ?_;have hge:q.k=ys.length:=by have:=of_decide_eq_false hb0;omega
   exact It.done rfl (hI.ext (stJ _) (hE.trans h2)) (by rw [List.length_map,hge,List.take_length])
theorem some_mkC_seq (ys:List Mk) (v:Value) (g:Nat) (caps:List Value) (p:Mk→Bool) (w00:World) (b1 b2:Nat) (w:World) (hx:Ext w00 w) (hl:LR 4 mkC w00 v ys) (hg:FnOK Tryz.prog g) (hp:PredC g caps mkC p w00) (ra:Row w b1 29 [v]) (rb:Row w b2 74 [.func (.func g) #[] caps.toArray]):SeqC Tryz.prog 89 [ptr b1,ptr b2] (fun b=>(b<w00.heap.size∨b=b1∨b=b2)) ((ys.filter p).map fun x=>[Value.agg (mkC x).toArray]) w :=
 SeqC.of fun l J X stJ stX bJ hy S hS hSw h0=>some_mkC_walk ys v g caps p w00 b1 b2 w hx hl hg hp ra rb l J X stJ stX bJ hy S hS hSw h0
set_option maxRecDepth 100000 in
theorem some_mkC_any (v fv:Value) (w:World) (hs:∃ a n c,v=.slice a n c) (hf:∃ g a b,fv=.func g a b) :
   Calls Tryz.prog 29 [v,fv].toArray w fun e w'=>∃ v',e=.returned v'∧Ext w w'∧∃ b1 b2,v'=.func (.func 89) #[] #[ptr b1,ptr b2]∧Row w' b1 29 [v]∧Row w' b2 74 [fv]∧w.heap.size≤b1∧w.heap.size≤b2:=by
 obtain⟨sa,sn,sc,rfl⟩:=hs;obtain⟨fg,fa,fb,rfl⟩:=hf;refine calls_of Tryz.func29 rfl Tryz.ntmps29 rfl ?_;refine EC.seq ?_;refine EC.region (fun i=>[2,2,1].getD i 0) [0,1,2] rfl ?_
 refine ER.st rfl rfl rfl rfl (fun w1 h1=>Stp.box rfl (fun w2 h2 s2 r2=>⟨h2,?_⟩))
 have n0:=h1.size;have n1:=(h1.trans h2).size;refine ER.st rfl rfl rfl rfl (fun w3 h3=>Stp.box rfl (fun w4 h4 s4 r4=>⟨h4,?_⟩))
 have n2:=h3.size;refine ER.sil rfl rfl rfl rfl (Sil.assign rfl) ?_;refine ER.nil (fun w5 h5=>?_)
 refine AQ.then ?_;refine EC.seq ?_;refine EC.region (fun i=>[1,1].getD i 0) [0,1] rfl ?_
 refine ER.sil rfl rfl rfl rfl (Sil.makeFunc rfl rfl) ?_;refine ER.sil rfl rfl rfl rfl (Sil.assign rfl) ?_;refine ER.nil (fun w6 h6=>?_)
 refine AQ.then ?_;refine EC.ret ?_;refine AQ.ret1 Tryz.results29 rfl ?_;exact⟨_,rfl,(((((h1.trans h2).trans h3).trans h4).trans h5).trans h6),w1.heap.size,w3.heap.size,rfl,(r2.ext (((h3.trans h4).trans h5).trans h6)),(r4.ext (h5.trans h6)),by omega,by omega⟩
set_option maxRecDepth 100000 in
theorem some_lnC_walk (ys:List Ln) (v:Value) (g:Nat) (caps:List Value) (p:Ln→Bool) (w00:World) (b1 b2:Nat) (w:World) (hx:Ext w00 w) (hl:LR 4 lnC w00 v ys) (hg:FnOK Tryz.prog g) (hp:PredC g caps lnC p w00) (ra:Row w b1 30 [v]) (rb:Row w b2 61 [.func (.func g) #[] caps.toArray])
   (l:Nat) (J:Nat→(Nat→Prop)→World→Prop) (X:(Nat→Prop)→World→Prop) (stJ:∀ k,Stays w.heap.size (J k)) (stX:Stays w.heap.size X) (bJ:∀ k S W,J k S W→∀ b,S b→b<W.heap.size) (hy:HY Tryz.prog l J X ((ys.filter p).map fun x=>[Value.agg (lnC x).toArray]))
   (S:Nat→Prop) (hS:∀ b,(b<w00.heap.size∨b=b1∨b=b2)→¬ S b) (hSw:∀ b,S b→b<w.heap.size) (h0:It S w (J 0) S w) :
   Calls Tryz.prog 84 [.func (.yield l) #[] #[],ptr b1,ptr b2].toArray w fun e w'=>∃ v S',e=.returned v∧Mod S w w'∧(∀ b,b<w.heap.size→S' b→S b)∧(J ((ys.filter p).map fun x=>[Value.agg (lnC x).toArray]).length S' w'∨X S' w'):=by
 have hm:=hl.max;refine calls_of Tryz.func84 rfl Tryz.ntmps84 rfl ?_;refine EC.seq ?_;refine EC.region (fun i=>[0,1,1].getD i 0) [0,1,2] rfl ?_
 refine ER.ex rfl rfl rfl rfl (Exa.load flat30 rfl (ra.cell rfl)) ?_;refine ER.sil rfl rfl rfl rfl (Sil.lenR Tryz.underlying30 rfl (hl.isS)) ?_;refine ER.sil rfl rfl rfl rfl (Sil.move rfl) ?_;refine ER.nil (fun w1 h1=>?_)
 refine AQ.then ?_;refine EC.block ?_;refine EC.loop (σ:=SomS) (fun q=>[(0,.func (.yield l) #[] #[]),(1,ptr b1),(2,ptr b2),(6,v),(7,.int .i64 (ys.length:Int)),(8,.int .i64 (q.k:Int))]) (fun q wr=>It S w (J ((ys.take q.k).filter p).length) q.S wr∧q.k≤ys.length) (fun q=>ys.length-q.k) ⟨0,S⟩ [0,1,2,6,7,8] rfl ?_ (fun q wr hF=>?_)
 ·exact⟨h0.ext (stJ 0) h1,Nat.zero_le _⟩
 obtain⟨hI,hk⟩:=hF;have hE:=Ext.refl wr;have hw0:=hI.base hx (fun b hb=>hS b (.inl hb))
 have q2:=hI.md.row rb (hS _ (.inr (.inr rfl)));refine EC.seq ?_;refine EC.region (fun i=>[1].getD i 0) [0] rfl ?_
 refine ER.sil rfl rfl rfl rfl (Sil.lss rfl rfl) ?_;refine ER.nil (fun w2 h2=>?_)
 refine AQ.then ?_;refine EC.seq ?_;refine EC.cond rfl (fun hb0=>?_) (fun hb0=>?_)
 ·
   have hlt:q.k<ys.length:=by have:=of_decide_eq_true hb0;omega
   refine EC.skip ?_;refine AQ.then ?_;refine EC.seq ?_;refine EC.block ?_;refine EC.seq ?_;refine EC.region (fun i=>[1,0,2,3].getD i 0) [0,1,2,3] rfl ?_
   refine ER.sil rfl rfl rfl rfl (Sil.indexR Tryz.underlying30 inf43 rfl rfl (hl.isE (by omega)) (by omega) (by omega)) ?_
   refine ER.ex rfl rfl rfl rfl (Exa.loadAgg (vs:=(lnC (ys[q.k]))) agg43 rfl ((hl.at hlt).ext (hw0.trans (hE.trans h2)))) ?_;refine ER.st rfl rfl rfl rfl (fun w3 h3=>Stp.alloc inf43 (fun w4 h4 s4 r4=>⟨h4,?_⟩))
   refine ER.bar rfl rfl rfl rfl (fun w5 h5=>Stp.store (by kernel_rfl) rfl rfl (r4.ext h5) rfl rfl (fun w6 u6 r6=>?_))
   have e6:=((h3.trans h4).trans h5).upd u6 h3.size;refine ER.nil (fun w7 h7=>?_)
   refine AQ.then ?_;refine EC.seq ?_;cases hsp3:p ys[q.k]
   ·
     refine EC.region (fun i=>[0,0,0,1,1,0,3,1,1].getD i 0) [0,1,2,3,4,5,6,7,8] rfl ?_
     refine ER.ex rfl rfl rfl rfl (Exa.load flat61 rfl ((q2.ext (((hE.trans h2).trans e6).trans h7)).cell rfl)) ?_;refine ER.ex rfl rfl rfl rfl (Exa.loadAgg (vs:=(lnC (ys[q.k]))) agg43 rfl ((r6.ext h7).at)) ?_;refine ER.ex rfl rfl rfl rfl (Exa.callC hg rfl rfl (fun wx hx=>(hp ys[q.k] wx (hw0.trans ((((hE.trans h2).trans e6).trans h7).trans hx))))) ?_
     refine ER.sil rfl rfl rfl rfl (Sil.move rfl) ?_;refine ER.skipG rfl rfl rfl rfl (by rw [hsp3];rfl) rfl ?_
     refine ER.skipG rfl rfl rfl rfl (by rw [hsp3];rfl) rfl ?_
     refine ER.skipG rfl rfl rfl rfl (by rw [hsp3];rfl) rfl ?_
     refine ER.skipG rfl rfl rfl rfl (by rw [hsp3];rfl) rfl ?_
     refine ER.sil rfl rfl rfl rfl (Sil.pick rfl rfl rfl) ?_;rw [hsp3];refine ER.nil (fun w8 h8=>?_)
     refine AQ.then ?_;refine EC.cond rfl (fun hb1=>?_) (fun hb1=>?_)
     ·
       cases hb1
     ·
       refine EC.skip ?_;refine AQ.blockNormal ?_;refine AQ.then ?_;refine EC.region (fun i=>[1,1].getD i 0) [0,1] rfl ?_
       refine ER.sil rfl rfl rfl rfl (Sil.add rfl rfl) ?_;refine ER.sil rfl rfl rfl rfl (Sil.move rfl) ?_;refine ER.nil (fun w9 h9=>?_)
       exact AQ.round ⟨q.k+1,q.S⟩ [0,1,2,6,7,8] (by rw [← wrap_succ hlt hm];rfl) ⟨by simp only [filt_no hlt hsp3];exact hI.ext (stJ _) (((((hE.trans h2).trans e6).trans h7).trans h8).trans h9),hlt⟩ (by simp only;omega)
   ·
     refine EC.region (fun i=>[0,0,0,1,1,0,3,1,1].getD i 0) [0,1,2,3,4,5,6,7,8] rfl ?_
     refine ER.ex rfl rfl rfl rfl (Exa.load flat61 rfl ((q2.ext (((hE.trans h2).trans e6).trans h7)).cell rfl)) ?_;refine ER.ex rfl rfl rfl rfl (Exa.loadAgg (vs:=(lnC (ys[q.k]))) agg43 rfl ((r6.ext h7).at)) ?_;refine ER.ex rfl rfl rfl rfl (Exa.callC hg rfl rfl (fun wx hx=>(hp ys[q.k] wx (hw0.trans ((((hE.trans h2).trans e6).trans h7).trans hx))))) ?_
     refine ER.sil rfl rfl rfl rfl (Sil.move rfl) ?_;refine ER.silD rfl rfl rfl rfl (by rw [hsp3];rfl) rfl rfl (Sil.move rfl) ?_
     refine ER.exD rfl rfl rfl rfl (by rw [hsp3];rfl) rfl rfl (Exa.loadAgg (vs:=(lnC (ys[q.k]))) agg43 rfl ((r6.ext h7).at)) ?_
     have hci:=filt_lt hlt hsp3;refine ER.barG rfl rfl rfl rfl (by rw [hsp3];rfl) rfl rfl (fun w10 h10=>Stp.yield rfl rfl (Yields.mono ((hI.ext (stJ _) ((((hE.trans h2).trans e6).trans h7).trans h10)).yields hy (i:=((ys.take q.k).filter p).length) (by rw [List.length_map];exact hci) (by rw [List.getElem_map,filt_get hlt hsp3 hci])) ?_))
     rintro _ w11 ⟨S2,k11,n11,c,rfl,hct,hcf⟩;refine ER.silD rfl rfl rfl rfl (by rw [hsp3];rfl) rfl rfl (Sil.not rfl) ?_
     refine ER.sil rfl rfl rfl rfl (Sil.pick rfl rfl rfl) ?_;rw [hsp3];refine ER.nil (fun w12 h12=>?_)
     refine AQ.then ?_;refine EC.cond rfl (fun hb2=>?_) (fun hb2=>?_)
     ·
       refine EC.ret ?_;refine AQ.blockRet ?_;refine AQ.thenRet ?_;refine AQ.thenRet ?_;refine AQ.blockRet ?_;refine AQ.ret0' Tryz.results84 ?_;exact It.stop rfl ((hcf (by simpa using hb2)).ext stX h12)
     ·
       have hI2:=hct (by simpa using hb2)
       refine EC.skip ?_;refine AQ.blockNormal ?_;refine AQ.then ?_;refine EC.region (fun i=>[1,1].getD i 0) [0,1] rfl ?_
       refine ER.sil rfl rfl rfl rfl (Sil.add rfl rfl) ?_;refine ER.sil rfl rfl rfl rfl (Sil.move rfl) ?_;refine ER.nil (fun w13 h13=>?_)
       exact AQ.round ⟨q.k+1,S2⟩ [0,1,2,6,7,8] (by rw [← wrap_succ hlt hm];rfl) ⟨by simp only [filt_yes hlt hsp3,List.length_append,List.length_singleton];exact hI2.ext (stJ _) (h12.trans h13),hlt⟩ (by simp only;omega)
 ·
   refine EC.exit ?_;refine AQ.thenExit ?_;refine AQ.thenExit ?_;refine AQ.blockHit ?_;refine AQ.ret0 Tryz.results84 ?_;have hge:q.k=ys.length:=by have:=of_decide_eq_false hb0;omega
   exact It.done rfl (hI.ext (stJ _) (hE.trans h2)) (by rw [List.length_map,hge,List.take_length])
theorem some_lnC_seq (ys:List Ln) (v:Value) (g:Nat) (caps:List Value) (p:Ln→Bool) (w00:World) (b1 b2:Nat) (w:World) (hx:Ext w00 w) (hl:LR 4 lnC w00 v ys) (hg:FnOK Tryz.prog g) (hp:PredC g caps lnC p w00) (ra:Row w b1 30 [v]) (rb:Row w b2 61 [.func (.func g) #[] caps.toArray]):SeqC Tryz.prog 84 [ptr b1,ptr b2] (fun b=>(b<w00.heap.size∨b=b1∨b=b2)) ((ys.filter p).map fun x=>[Value.agg (lnC x).toArray]) w :=
 SeqC.of fun l J X stJ stX bJ hy S hS hSw h0=>some_lnC_walk ys v g caps p w00 b1 b2 w hx hl hg hp ra rb l J X stJ stX bJ hy S hS hSw h0
set_option maxRecDepth 100000 in
theorem some_lnC_any (v fv:Value) (w:World) (hs:∃ a n c,v=.slice a n c) (hf:∃ g a b,fv=.func g a b) :
   Calls Tryz.prog 22 [v,fv].toArray w fun e w'=>∃ v',e=.returned v'∧Ext w w'∧∃ b1 b2,v'=.func (.func 84) #[] #[ptr b1,ptr b2]∧Row w' b1 30 [v]∧Row w' b2 61 [fv]∧w.heap.size≤b1∧w.heap.size≤b2:=by
 obtain⟨sa,sn,sc,rfl⟩:=hs;obtain⟨fg,fa,fb,rfl⟩:=hf;refine calls_of Tryz.func22 rfl Tryz.ntmps22 rfl ?_;refine EC.seq ?_;refine EC.region (fun i=>[2,2,1].getD i 0) [0,1,2] rfl ?_
 refine ER.st rfl rfl rfl rfl (fun w1 h1=>Stp.box rfl (fun w2 h2 s2 r2=>⟨h2,?_⟩))
 have n0:=h1.size;have n1:=(h1.trans h2).size;refine ER.st rfl rfl rfl rfl (fun w3 h3=>Stp.box rfl (fun w4 h4 s4 r4=>⟨h4,?_⟩))
 have n2:=h3.size;refine ER.sil rfl rfl rfl rfl (Sil.assign rfl) ?_;refine ER.nil (fun w5 h5=>?_)
 refine AQ.then ?_;refine EC.seq ?_;refine EC.region (fun i=>[1,1].getD i 0) [0,1] rfl ?_
 refine ER.sil rfl rfl rfl rfl (Sil.makeFunc rfl rfl) ?_;refine ER.sil rfl rfl rfl rfl (Sil.assign rfl) ?_;refine ER.nil (fun w6 h6=>?_)
 refine AQ.then ?_;refine EC.ret ?_;refine AQ.ret1 Tryz.results22 rfl ?_;exact⟨_,rfl,(((((h1.trans h2).trans h3).trans h4).trans h5).trans h6),w1.heap.size,w3.heap.size,rfl,(r2.ext (((h3.trans h4).trans h5).trans h6)),(r4.ext (h5.trans h6)),by omega,by omega⟩
set_option maxRecDepth 100000 in
theorem some_ilC_walk (ys:List Il) (v:Value) (g:Nat) (caps:List Value) (p:Il→Bool) (w00:World) (b1 b2:Nat) (w:World) (hx:Ext w00 w) (hl:LR 6 ilC w00 v ys) (hg:FnOK Tryz.prog g) (hp:PredC g caps ilC p w00) (ra:Row w b1 32 [v]) (rb:Row w b2 81 [.func (.func g) #[] caps.toArray])
   (l:Nat) (J:Nat→(Nat→Prop)→World→Prop) (X:(Nat→Prop)→World→Prop) (stJ:∀ k,Stays w.heap.size (J k)) (stX:Stays w.heap.size X) (bJ:∀ k S W,J k S W→∀ b,S b→b<W.heap.size) (hy:HY Tryz.prog l J X ((ys.filter p).map fun x=>[Value.agg (ilC x).toArray]))
   (S:Nat→Prop) (hS:∀ b,(b<w00.heap.size∨b=b1∨b=b2)→¬ S b) (hSw:∀ b,S b→b<w.heap.size) (h0:It S w (J 0) S w) :
   Calls Tryz.prog 91 [.func (.yield l) #[] #[],ptr b1,ptr b2].toArray w fun e w'=>∃ v S',e=.returned v∧Mod S w w'∧(∀ b,b<w.heap.size→S' b→S b)∧(J ((ys.filter p).map fun x=>[Value.agg (ilC x).toArray]).length S' w'∨X S' w'):=by
 have hm:=hl.max;refine calls_of Tryz.func91 rfl Tryz.ntmps91 rfl ?_;refine EC.seq ?_;refine EC.region (fun i=>[0,1,1].getD i 0) [0,1,2] rfl ?_
 refine ER.ex rfl rfl rfl rfl (Exa.load flat32 rfl (ra.cell rfl)) ?_;refine ER.sil rfl rfl rfl rfl (Sil.lenR Tryz.underlying32 rfl (hl.isS)) ?_;refine ER.sil rfl rfl rfl rfl (Sil.move rfl) ?_;refine ER.nil (fun w1 h1=>?_)
 refine AQ.then ?_;refine EC.block ?_;refine EC.loop (σ:=SomS) (fun q=>[(0,.func (.yield l) #[] #[]),(1,ptr b1),(2,ptr b2),(6,v),(7,.int .i64 (ys.length:Int)),(8,.int .i64 (q.k:Int))]) (fun q wr=>It S w (J ((ys.take q.k).filter p).length) q.S wr∧q.k≤ys.length) (fun q=>ys.length-q.k) ⟨0,S⟩ [0,1,2,6,7,8] rfl ?_ (fun q wr hF=>?_)
 ·exact⟨h0.ext (stJ 0) h1,Nat.zero_le _⟩
 obtain⟨hI,hk⟩:=hF;have hE:=Ext.refl wr;have hw0:=hI.base hx (fun b hb=>hS b (.inl hb))
 have q2:=hI.md.row rb (hS _ (.inr (.inr rfl)));refine EC.seq ?_;refine EC.region (fun i=>[1].getD i 0) [0] rfl ?_
 refine ER.sil rfl rfl rfl rfl (Sil.lss rfl rfl) ?_;refine ER.nil (fun w2 h2=>?_)
 refine AQ.then ?_;refine EC.seq ?_;refine EC.cond rfl (fun hb0=>?_) (fun hb0=>?_)
 ·
   have hlt:q.k<ys.length:=by have:=of_decide_eq_true hb0;omega
   refine EC.skip ?_;refine AQ.then ?_;refine EC.seq ?_;refine EC.block ?_;refine EC.seq ?_;refine EC.region (fun i=>[1,0,2,3].getD i 0) [0,1,2,3] rfl ?_
   refine ER.sil rfl rfl rfl rfl (Sil.indexR Tryz.underlying32 inf57 rfl rfl (hl.isE (by omega)) (by omega) (by omega)) ?_
   refine ER.ex rfl rfl rfl rfl (Exa.loadAgg (vs:=(ilC (ys[q.k]))) agg57 rfl ((hl.at hlt).ext (hw0.trans (hE.trans h2)))) ?_;refine ER.st rfl rfl rfl rfl (fun w3 h3=>Stp.alloc inf57 (fun w4 h4 s4 r4=>⟨h4,?_⟩))
   refine ER.bar rfl rfl rfl rfl (fun w5 h5=>Stp.store (by kernel_rfl) rfl rfl (r4.ext h5) rfl rfl (fun w6 u6 r6=>?_))
   have e6:=((h3.trans h4).trans h5).upd u6 h3.size;refine ER.nil (fun w7 h7=>?_)
   refine AQ.then ?_;refine EC.seq ?_;cases hsp3:p ys[q.k]
   ·
     refine EC.region (fun i=>[0,0,0,1,1,0,3,1,1].getD i 0) [0,1,2,3,4,5,6,7,8] rfl ?_
     refine ER.ex rfl rfl rfl rfl (Exa.load flat81 rfl ((q2.ext (((hE.trans h2).trans e6).trans h7)).cell rfl)) ?_;refine ER.ex rfl rfl rfl rfl (Exa.loadAgg (vs:=(ilC (ys[q.k]))) agg57 rfl ((r6.ext h7).at)) ?_;refine ER.ex rfl rfl rfl rfl (Exa.callC hg rfl rfl (fun wx hx=>(hp ys[q.k] wx (hw0.trans ((((hE.trans h2).trans e6).trans h7).trans hx))))) ?_
     refine ER.sil rfl rfl rfl rfl (Sil.move rfl) ?_;refine ER.skipG rfl rfl rfl rfl (by rw [hsp3];rfl) rfl ?_
     refine ER.skipG rfl rfl rfl rfl (by rw [hsp3];rfl) rfl ?_
     refine ER.skipG rfl rfl rfl rfl (by rw [hsp3];rfl) rfl ?_
     refine ER.skipG rfl rfl rfl rfl (by rw [hsp3];rfl) rfl ?_
     refine ER.sil rfl rfl rfl rfl (Sil.pick rfl rfl rfl) ?_;rw [hsp3];refine ER.nil (fun w8 h8=>?_)
     refine AQ.then ?_;refine EC.cond rfl (fun hb1=>?_) (fun hb1=>?_)
     ·
       cases hb1
     ·
       refine EC.skip ?_;refine AQ.blockNormal ?_;refine AQ.then ?_;refine EC.region (fun i=>[1,1].getD i 0) [0,1] rfl ?_
       refine ER.sil rfl rfl rfl rfl (Sil.add rfl rfl) ?_;refine ER.sil rfl rfl rfl rfl (Sil.move rfl) ?_;refine ER.nil (fun w9 h9=>?_)
       exact AQ.round ⟨q.k+1,q.S⟩ [0,1,2,6,7,8] (by rw [← wrap_succ hlt hm];rfl) ⟨by simp only [filt_no hlt hsp3];exact hI.ext (stJ _) (((((hE.trans h2).trans e6).trans h7).trans h8).trans h9),hlt⟩ (by simp only;omega)
   ·
     refine EC.region (fun i=>[0,0,0,1,1,0,3,1,1].getD i 0) [0,1,2,3,4,5,6,7,8] rfl ?_
     refine ER.ex rfl rfl rfl rfl (Exa.load flat81 rfl ((q2.ext (((hE.trans h2).trans e6).trans h7)).cell rfl)) ?_;refine ER.ex rfl rfl rfl rfl (Exa.loadAgg (vs:=(ilC (ys[q.k]))) agg57 rfl ((r6.ext h7).at)) ?_;refine ER.ex rfl rfl rfl rfl (Exa.callC hg rfl rfl (fun wx hx=>(hp ys[q.k] wx (hw0.trans ((((hE.trans h2).trans e6).trans h7).trans hx))))) ?_
     refine ER.sil rfl rfl rfl rfl (Sil.move rfl) ?_;refine ER.silD rfl rfl rfl rfl (by rw [hsp3];rfl) rfl rfl (Sil.move rfl) ?_
     refine ER.exD rfl rfl rfl rfl (by rw [hsp3];rfl) rfl rfl (Exa.loadAgg (vs:=(ilC (ys[q.k]))) agg57 rfl ((r6.ext h7).at)) ?_
     have hci:=filt_lt hlt hsp3;refine ER.barG rfl rfl rfl rfl (by rw [hsp3];rfl) rfl rfl (fun w10 h10=>Stp.yield rfl rfl (Yields.mono ((hI.ext (stJ _) ((((hE.trans h2).trans e6).trans h7).trans h10)).yields hy (i:=((ys.take q.k).filter p).length) (by rw [List.length_map];exact hci) (by rw [List.getElem_map,filt_get hlt hsp3 hci])) ?_))
     rintro _ w11 ⟨S2,k11,n11,c,rfl,hct,hcf⟩;refine ER.silD rfl rfl rfl rfl (by rw [hsp3];rfl) rfl rfl (Sil.not rfl) ?_
     refine ER.sil rfl rfl rfl rfl (Sil.pick rfl rfl rfl) ?_;rw [hsp3];refine ER.nil (fun w12 h12=>?_)
     refine AQ.then ?_;refine EC.cond rfl (fun hb2=>?_) (fun hb2=>?_)
     ·
       refine EC.ret ?_;refine AQ.blockRet ?_;refine AQ.thenRet ?_;refine AQ.thenRet ?_;refine AQ.blockRet ?_;refine AQ.ret0' Tryz.results91 ?_;exact It.stop rfl ((hcf (by simpa using hb2)).ext stX h12)
     ·
       have hI2:=hct (by simpa using hb2)
       refine EC.skip ?_;refine AQ.blockNormal ?_;refine AQ.then ?_;refine EC.region (fun i=>[1,1].getD i 0) [0,1] rfl ?_
       refine ER.sil rfl rfl rfl rfl (Sil.add rfl rfl) ?_;refine ER.sil rfl rfl rfl rfl (Sil.move rfl) ?_;refine ER.nil (fun w13 h13=>?_)
       exact AQ.round ⟨q.k+1,S2⟩ [0,1,2,6,7,8] (by rw [← wrap_succ hlt hm];rfl) ⟨by simp only [filt_yes hlt hsp3,List.length_append,List.length_singleton];exact hI2.ext (stJ _) (h12.trans h13),hlt⟩ (by simp only;omega)
 ·
   refine EC.exit ?_;refine AQ.thenExit ?_;refine AQ.thenExit ?_;refine AQ.blockHit ?_;refine AQ.ret0 Tryz.results91 ?_;have hge:q.k=ys.length:=by have:=of_decide_eq_false hb0;omega
   exact It.done rfl (hI.ext (stJ _) (hE.trans h2)) (by rw [List.length_map,hge,List.take_length])
theorem some_ilC_seq (ys:List Il) (v:Value) (g:Nat) (caps:List Value) (p:Il→Bool) (w00:World) (b1 b2:Nat) (w:World) (hx:Ext w00 w) (hl:LR 6 ilC w00 v ys) (hg:FnOK Tryz.prog g) (hp:PredC g caps ilC p w00) (ra:Row w b1 32 [v]) (rb:Row w b2 81 [.func (.func g) #[] caps.toArray]):SeqC Tryz.prog 91 [ptr b1,ptr b2] (fun b=>(b<w00.heap.size∨b=b1∨b=b2)) ((ys.filter p).map fun x=>[Value.agg (ilC x).toArray]) w :=
 SeqC.of fun l J X stJ stX bJ hy S hS hSw h0=>some_ilC_walk ys v g caps p w00 b1 b2 w hx hl hg hp ra rb l J X stJ stX bJ hy S hS hSw h0
set_option maxRecDepth 100000 in
theorem some_ilC_any (v fv:Value) (w:World) (hs:∃ a n c,v=.slice a n c) (hf:∃ g a b,fv=.func g a b) :
   Calls Tryz.prog 34 [v,fv].toArray w fun e w'=>∃ v',e=.returned v'∧Ext w w'∧∃ b1 b2,v'=.func (.func 91) #[] #[ptr b1,ptr b2]∧Row w' b1 32 [v]∧Row w' b2 81 [fv]∧w.heap.size≤b1∧w.heap.size≤b2:=by
 obtain⟨sa,sn,sc,rfl⟩:=hs;obtain⟨fg,fa,fb,rfl⟩:=hf;refine calls_of Tryz.func34 rfl Tryz.ntmps34 rfl ?_;refine EC.seq ?_;refine EC.region (fun i=>[2,2,1].getD i 0) [0,1,2] rfl ?_
 refine ER.st rfl rfl rfl rfl (fun w1 h1=>Stp.box rfl (fun w2 h2 s2 r2=>⟨h2,?_⟩))
 have n0:=h1.size;have n1:=(h1.trans h2).size;refine ER.st rfl rfl rfl rfl (fun w3 h3=>Stp.box rfl (fun w4 h4 s4 r4=>⟨h4,?_⟩))
 have n2:=h3.size;refine ER.sil rfl rfl rfl rfl (Sil.assign rfl) ?_;refine ER.nil (fun w5 h5=>?_)
 refine AQ.then ?_;refine EC.seq ?_;refine EC.region (fun i=>[1,1].getD i 0) [0,1] rfl ?_
 refine ER.sil rfl rfl rfl rfl (Sil.makeFunc rfl rfl) ?_;refine ER.sil rfl rfl rfl rfl (Sil.assign rfl) ?_;refine ER.nil (fun w6 h6=>?_)
 refine AQ.then ?_;refine EC.ret ?_;refine AQ.ret1 Tryz.results34 rfl ?_;exact⟨_,rfl,(((((h1.trans h2).trans h3).trans h4).trans h5).trans h6),w1.heap.size,w3.heap.size,rfl,(r2.ext (((h3.trans h4).trans h5).trans h6)),(r4.ext (h5.trans h6)),by omega,by omega⟩
end Go.Proofs.YtobpljbkdffkbaaGreat
namespace Go.Proofs.YtobpljbkdffkbaaGreat
open Go.RowKit Go.XK Go.LocateLaw
set_option maxRecDepth 100000 in
theorem last_mkC (xs:List Mk) (gf:Nat) (caps:List Value) (mem:Nat→Prop) (w:World) (hgf:FnOK Tryz.prog gf) (hmm:∀ b,mem b→b<w.heap.size) (hseq:∀ W,Ext w W→SeqC Tryz.prog gf caps mem (xs.map fun x=>[Value.agg (mkC x).toArray]) W) :
   Calls Tryz.prog 28 [.func (.func gf) #[] caps.toArray].toArray w fun e w'=>e=.returned (.tuple #[.agg (mkC (lastD mkZ xs)).toArray,.bool (lastB xs)])∧Ext w w':=by
 refine calls_ofM Tryz.func28 rfl Tryz.ntmps28 rfl ?_;refine EC.seq ?_;refine EC.region (fun i=>[2,2].getD i 0) [0,1] rfl ?_
 refine ER.st rfl rfl rfl rfl (fun w1 h1=>Stp.alloc inf53 (fun w2 h2 s2 r2=>⟨h2,?_⟩))
 have hB2:=h1.size;have hl1:=r2.lt;refine ER.st rfl rfl rfl rfl (fun w3 h3=>Stp.alloc inf4 (fun w4 h4 s4 r4=>⟨h4,?_⟩))
 have hB3:=Nat.le_trans (h1.trans h2).size h3.size;have hne:=Nat.lt_of_lt_of_le hl1 h3.size;refine ER.nil (fun w5 h5=>?_)
 refine AQ.then ?_;refine EC.seq ?_;refine EC.seq ?_;refine EC.region (fun i=>[1].getD i 0) [0] rfl ?_
 refine ER.sil rfl rfl rfl rfl (Sil.move rfl) ?_;refine ER.nil (fun w6 h6=>?_)
 refine AQ.then ?_;refine EC.block ?_;have hw1:=(((((h1.trans h2).trans h3).trans h4).trans h5).trans h6);have k20:=(r2.ext (((h3.trans h4).trans h5).trans h6));have k30:=(r4.ext (h5.trans h6));have hl2:=k20.lt;have hl3:=k30.lt
 refine EC.rangeA (xs:=((xs.map fun x=>[Value.agg (mkC x).toArray]))) (mem:=(mem)) rfl hgf rfl (fun x hx=>by obtain⟨y,_,rfl⟩:=List.mem_map.1 hx;rfl)
   (fun j S1 W=>S1=(fun b=>b=w1.heap.size∨b=w3.heap.size)∧Ext w W∧Row W w1.heap.size 53 (mkC (lastD mkZ (xs.take j)))∧Row W w3.heap.size 4 [.bool (lastB (xs.take j))])
   (fun _ _ _=>False)
   (fun j S1 W W' h m=>by
       obtain⟨rfl,hx,g2,g3⟩:=h
       exact⟨rfl,hx.modify m (fun k hk=>Nat.le_trans hw1.size hk.1),m.row g2 (fun hb=>hb.2 (.inl rfl)),m.row g3 (fun hb=>hb.2 (.inr rfl))⟩) (fun _ _ _ _ h _=>h) (fun j S1 W h b hb=>by
       obtain⟨rfl,hx,g2,g3⟩:=h;rcases hb with rfl|rfl
       ·exact g2.lt
       ·exact g3.lt)
   (fun W1 hW=>hseq W1 (hw1.trans hW)) ((fun b=>b=w1.heap.size∨b=w3.heap.size)) (fun b hb=>⟨fun hs=>by have:=hmm b hb;rcases hs with hs|hs<;>omega,Nat.lt_of_lt_of_le (hmm b hb) hw1.size⟩) (⟨rfl,hw1,k20,k30⟩) (fun k E W=>∃ b,∃ hk:k<xs.length,E=[(2,ptr w1.heap.size),(3,ptr w3.heap.size),(4,ptr b)]∧Row W b 53 (mkC xs[k])∧w6.heap.size+1<b) (fun k E W W' h m=>by
       obtain⟨b,hk,rfl,h1,h2⟩:=h
       exact⟨b,hk,rfl,m.row h1 (fun e=>by omega),h2⟩) ?_ ?_ ?_ ?_
 ·intro lr kr wr hkr hlr;have hE:=Ext.refl wr;have hkr2:kr<xs.length:=by simpa using hkr
  rw [List.getElem_map];refine EC.region (fun i=>[2,3].getD i 0) [0,1] rfl ?_
  refine ER.st rfl rfl rfl rfl (fun w7 h7=>Stp.alloc inf53 (fun w8 h8 s8 r8=>⟨h8,?_⟩))
  have hn4:=Nat.le_trans hE.size h7.size;refine ER.bar rfl rfl rfl rfl (fun w9 h9=>Stp.store (by kernel_rfl) rfl rfl (r8.ext h9) rfl rfl (fun w10 u10 r10=>?_))
  have e10:=((h7.trans h8).trans h9).upd u10 h7.size;refine ER.nil (fun w11 h11=>?_)
  exact AQ.assignedA (A:=fun E W=>(fun k E W=>∃ b,∃ hk:k<xs.length,E=[(2,ptr w1.heap.size),(3,ptr w3.heap.size),(4,ptr b)]∧Row W b 53 (mkC xs[k])∧w6.heap.size+1<b) kr E W) [2,3,4] rfl ((hE.trans e10).trans h11) (⟨_,by simpa using hkr,rfl,(r10.ext h11),by omega⟩)
 ·intro lr kr Sr wr Er hkr hI hM hA;have hE:=Ext.refl wr;obtain⟨rfl,hx,g2,g3⟩:=hI;obtain⟨b4,hkr2,rfl,k4,hb4⟩:=hA;refine EC.block ?_;refine EC.region (fun i=>[0,3,3].getD i 0) [0,1,2] rfl ?_
  refine ER.ex rfl rfl rfl rfl (Exa.loadAgg (vs:=(mkC (xs[kr]))) agg53 rfl ((k4.ext hE).at)) ?_;refine ER.bar rfl rfl rfl rfl (fun w12 h12=>Stp.store (by kernel_rfl) rfl rfl (g2.ext (hE.trans h12)) rfl rfl (fun w13 u13 y2=>?_))
  have x2:=(hx.trans (hE.trans h12)).upd u13 hB2;have M2:=((hE.trans h12).mod (fun b=>b=w1.heap.size∨b=w3.heap.size)).trans (u13.mod (S:=(fun b=>b=w1.heap.size∨b=w3.heap.size)) (.inl rfl))
  have g3a:=u13.row (g3.ext (hE.trans h12)) (by omega)
  refine ER.bar rfl rfl rfl rfl (fun w14 h14=>Stp.store (by kernel_rfl) rfl rfl (g3a.ext ((Ext.refl _).trans h14)) rfl rfl (fun w15 u15 y3=>?_))
  have x3:=(x2.trans ((Ext.refl _).trans h14)).upd u15 hB3;have M3:=(M2.trans (((Ext.refl _).trans h14).mod _)).trans (u15.mod (S:=(fun b=>b=w1.heap.size∨b=w3.heap.size)) (.inr rfl))
  have g2a:=u15.row (y2.ext ((Ext.refl _).trans h14)) (by omega)
  refine ER.nil (fun w16 h16=>?_)
  refine AQ.blockNormal ?_;refine AQ.rqN (fun b=>b=w1.heap.size∨b=w3.heap.size) (M3.trans (h16.mod _)) (fun b _ h=>h) ⟨rfl,x3.trans h16,?_,?_⟩
  ·rw [lastD_next hkr2];exact g2a.ext h16
  ·rw [lastB_next hkr2];exact y3.ext h16
 ·intro D Sr wr hD hM hold hnD hDr hI;have hE:=Ext.refl wr;obtain⟨rfl,hx,g2,g3⟩:=hI;have dr:DR wr D:=hDr;refine AQ.blockNormal ?_;refine AQ.then ?_;refine EC.seq ?_;refine EC.drawA (fun i=>[0,0,3,3].getD i 0) (by kernel_rfl) 4 rfl ?_
  refine EA.take 0 (by kernel_rfl) ?_
  intro c17;refine EX.ex rfl rfl rfl rfl (Exa.loadAgg (vs:=(mkC (lastD mkZ (xs.take (xs.map fun x=>[Value.agg (mkC x).toArray]).length)))) agg53 rfl (g2.at)) ?_
  refine EA.back c17 ?_;refine EA.two 1 2 (by kernel_rfl) ?_ ?_
  ·
    intro c18;refine EX.ex rfl rfl rfl rfl (Exa.load flat4 rfl (g3.cell rfl)) ?_;refine EA.back c18 ?_;refine EA.only 2 (by kernel_rfl) ?_
    intro c19;refine EX.bar rfl rfl rfl rfl (fun w20 h20=>Stp.store (by kernel_rfl) rfl rfl (g2.ext h20) rfl rfl (fun w21 u21 r21=>?_))
    have b21:=(hx.trans h20).upd u21 hB2;have x21_3:=u21.row (g3.ext h20) (by omega)
    have y21_dr:=(dr.ext h20).upd u21 (by omega)
    refine EA.back c19 ?_;refine EA.only 3 (by kernel_rfl) ?_
    intro c22;refine EX.bar rfl rfl rfl rfl (fun w23 h23=>Stp.store (by kernel_rfl) rfl rfl (x21_3.ext h23) rfl rfl (fun w24 u24 r24=>?_))
    have b24:=(b21.trans h23).upd u24 hB3;have x24_2:=u24.row (r21.ext h23) (by omega)
    have y24_dr:=(y21_dr.ext h23).upd u24 (by omega)
    refine EA.back c22 ?_;refine EA.nil (by kernel_rfl) (fun w25 h25=>?_)
    refine AQ.then ?_;refine EC.ret ?_;have hlx:(xs.map fun x=>[Value.agg (mkC x).toArray]).length=xs.length:=List.length_map _
    exact AQ.outC (.inr rfl) [D] (fun dl a ha w' hm=>resC2 Tryz.results28 rfl rfl (LV.agg (hm.row (x24_2.ext h25) (by simp;omega)) agg53) (LV.flat flat4 (hm.row (r24.ext h25) (by simp;omega))) dl a ha) (by simp) (by simpa [DR] using (y24_dr.ext h25)) (fun w' hm=>⟨by rw [hlx,List.take_length];rfl,(b24.trans h25).modify hm (fun k hk=>by rw [List.mem_singleton]at hk;subst hk;exact Nat.le_trans hw1.size hD)⟩)
  ·
    intro c26;refine EX.bar rfl rfl rfl rfl (fun w27 h27=>Stp.store (by kernel_rfl) rfl rfl (g2.ext h27) rfl rfl (fun w28 u28 r28=>?_))
    have b28:=(hx.trans h27).upd u28 hB2;have x28_3:=u28.row (g3.ext h27) (by omega)
    have y28_dr:=(dr.ext h27).upd u28 (by omega)
    refine EA.back c26 ?_;refine EA.take 1 (by kernel_rfl) ?_
    intro c29;refine EX.ex rfl rfl rfl rfl (Exa.load flat4 rfl (x28_3.cell rfl)) ?_;refine EA.back c29 ?_;refine EA.only 3 (by kernel_rfl) ?_
    intro c30;refine EX.bar rfl rfl rfl rfl (fun w31 h31=>Stp.store (by kernel_rfl) rfl rfl (x28_3.ext h31) rfl rfl (fun w32 u32 r32=>?_))
    have b32:=(b28.trans h31).upd u32 hB3;have x32_2:=u32.row (r28.ext h31) (by omega)
    have y32_dr:=(y28_dr.ext h31).upd u32 (by omega)
    refine EA.back c30 ?_;refine EA.nil (by kernel_rfl) (fun w33 h33=>?_)
    refine AQ.then ?_;refine EC.ret ?_;have hlx:(xs.map fun x=>[Value.agg (mkC x).toArray]).length=xs.length:=List.length_map _
    exact AQ.outC (.inr rfl) [D] (fun dl a ha w' hm=>resC2 Tryz.results28 rfl rfl (LV.agg (hm.row (x32_2.ext h33) (by simp;omega)) agg53) (LV.flat flat4 (hm.row (r32.ext h33) (by simp;omega))) dl a ha) (by simp) (by simpa [DR] using (y32_dr.ext h33)) (fun w' hm=>⟨by rw [hlx,List.take_length];rfl,(b32.trans h33).modify hm (fun k hk=>by rw [List.mem_singleton]at hk;subst hk;exact Nat.le_trans hw1.size hD)⟩)
 ·intro D c Sr wr hD hM hold hnD hDr hX;have hE:=Ext.refl wr;exact hX.elim
set_option maxRecDepth 100000 in
theorem last_lnC (xs:List Ln) (gf:Nat) (caps:List Value) (mem:Nat→Prop) (w:World) (hgf:FnOK Tryz.prog gf) (hmm:∀ b,mem b→b<w.heap.size) (hseq:∀ W,Ext w W→SeqC Tryz.prog gf caps mem (xs.map fun x=>[Value.agg (lnC x).toArray]) W) :
   Calls Tryz.prog 31 [.func (.func gf) #[] caps.toArray].toArray w fun e w'=>e=.returned (.tuple #[.agg (lnC (lastD lnZ xs)).toArray,.bool (lastB xs)])∧Ext w w':=by
 refine calls_ofM Tryz.func31 rfl Tryz.ntmps31 rfl ?_;refine EC.seq ?_;refine EC.region (fun i=>[2,2].getD i 0) [0,1] rfl ?_
 refine ER.st rfl rfl rfl rfl (fun w1 h1=>Stp.alloc inf43 (fun w2 h2 s2 r2=>⟨h2,?_⟩))
 have hB2:=h1.size;have hl1:=r2.lt;refine ER.st rfl rfl rfl rfl (fun w3 h3=>Stp.alloc inf4 (fun w4 h4 s4 r4=>⟨h4,?_⟩))
 have hB3:=Nat.le_trans (h1.trans h2).size h3.size;have hne:=Nat.lt_of_lt_of_le hl1 h3.size;refine ER.nil (fun w5 h5=>?_)
 refine AQ.then ?_;refine EC.seq ?_;refine EC.seq ?_;refine EC.region (fun i=>[1].getD i 0) [0] rfl ?_
 refine ER.sil rfl rfl rfl rfl (Sil.move rfl) ?_;refine ER.nil (fun w6 h6=>?_)
 refine AQ.then ?_;refine EC.block ?_;have hw1:=(((((h1.trans h2).trans h3).trans h4).trans h5).trans h6);have k20:=(r2.ext (((h3.trans h4).trans h5).trans h6));have k30:=(r4.ext (h5.trans h6));have hl2:=k20.lt;have hl3:=k30.lt
 refine EC.rangeA (xs:=((xs.map fun x=>[Value.agg (lnC x).toArray]))) (mem:=(mem)) rfl hgf rfl (fun x hx=>by obtain⟨y,_,rfl⟩:=List.mem_map.1 hx;rfl)
   (fun j S1 W=>S1=(fun b=>b=w1.heap.size∨b=w3.heap.size)∧Ext w W∧Row W w1.heap.size 43 (lnC (lastD lnZ (xs.take j)))∧Row W w3.heap.size 4 [.bool (lastB (xs.take j))])
   (fun _ _ _=>False)
   (fun j S1 W W' h m=>by
       obtain⟨rfl,hx,g2,g3⟩:=h
       exact⟨rfl,hx.modify m (fun k hk=>Nat.le_trans hw1.size hk.1),m.row g2 (fun hb=>hb.2 (.inl rfl)),m.row g3 (fun hb=>hb.2 (.inr rfl))⟩) (fun _ _ _ _ h _=>h) (fun j S1 W h b hb=>by
       obtain⟨rfl,hx,g2,g3⟩:=h;rcases hb with rfl|rfl
       ·exact g2.lt
       ·exact g3.lt)
   (fun W1 hW=>hseq W1 (hw1.trans hW)) ((fun b=>b=w1.heap.size∨b=w3.heap.size)) (fun b hb=>⟨fun hs=>by have:=hmm b hb;rcases hs with hs|hs<;>omega,Nat.lt_of_lt_of_le (hmm b hb) hw1.size⟩) (⟨rfl,hw1,k20,k30⟩) (fun k E W=>∃ b,∃ hk:k<xs.length,E=[(2,ptr w1.heap.size),(3,ptr w3.heap.size),(4,ptr b)]∧Row W b 43 (lnC xs[k])∧w6.heap.size+1<b) (fun k E W W' h m=>by
       obtain⟨b,hk,rfl,h1,h2⟩:=h
       exact⟨b,hk,rfl,m.row h1 (fun e=>by omega),h2⟩) ?_ ?_ ?_ ?_
 ·intro lr kr wr hkr hlr;have hE:=Ext.refl wr;have hkr2:kr<xs.length:=by simpa using hkr
  rw [List.getElem_map];refine EC.region (fun i=>[2,3].getD i 0) [0,1] rfl ?_
  refine ER.st rfl rfl rfl rfl (fun w7 h7=>Stp.alloc inf43 (fun w8 h8 s8 r8=>⟨h8,?_⟩))
  have hn4:=Nat.le_trans hE.size h7.size;refine ER.bar rfl rfl rfl rfl (fun w9 h9=>Stp.store (by kernel_rfl) rfl rfl (r8.ext h9) rfl rfl (fun w10 u10 r10=>?_))
  have e10:=((h7.trans h8).trans h9).upd u10 h7.size;refine ER.nil (fun w11 h11=>?_)
  exact AQ.assignedA (A:=fun E W=>(fun k E W=>∃ b,∃ hk:k<xs.length,E=[(2,ptr w1.heap.size),(3,ptr w3.heap.size),(4,ptr b)]∧Row W b 43 (lnC xs[k])∧w6.heap.size+1<b) kr E W) [2,3,4] rfl ((hE.trans e10).trans h11) (⟨_,by simpa using hkr,rfl,(r10.ext h11),by omega⟩)
 ·intro lr kr Sr wr Er hkr hI hM hA;have hE:=Ext.refl wr;obtain⟨rfl,hx,g2,g3⟩:=hI;obtain⟨b4,hkr2,rfl,k4,hb4⟩:=hA;refine EC.block ?_;refine EC.region (fun i=>[0,3,3].getD i 0) [0,1,2] rfl ?_
  refine ER.ex rfl rfl rfl rfl (Exa.loadAgg (vs:=(lnC (xs[kr]))) agg43 rfl ((k4.ext hE).at)) ?_;refine ER.bar rfl rfl rfl rfl (fun w12 h12=>Stp.store (by kernel_rfl) rfl rfl (g2.ext (hE.trans h12)) rfl rfl (fun w13 u13 y2=>?_))
  have x2:=(hx.trans (hE.trans h12)).upd u13 hB2;have M2:=((hE.trans h12).mod (fun b=>b=w1.heap.size∨b=w3.heap.size)).trans (u13.mod (S:=(fun b=>b=w1.heap.size∨b=w3.heap.size)) (.inl rfl))
  have g3a:=u13.row (g3.ext (hE.trans h12)) (by omega)
  refine ER.bar rfl rfl rfl rfl (fun w14 h14=>Stp.store (by kernel_rfl) rfl rfl (g3a.ext ((Ext.refl _).trans h14)) rfl rfl (fun w15 u15 y3=>?_))
  have x3:=(x2.trans ((Ext.refl _).trans h14)).upd u15 hB3;have M3:=(M2.trans (((Ext.refl _).trans h14).mod _)).trans (u15.mod (S:=(fun b=>b=w1.heap.size∨b=w3.heap.size)) (.inr rfl))
  have g2a:=u15.row (y2.ext ((Ext.refl _).trans h14)) (by omega)
  refine ER.nil (fun w16 h16=>?_)
  refine AQ.blockNormal ?_;refine AQ.rqN (fun b=>b=w1.heap.size∨b=w3.heap.size) (M3.trans (h16.mod _)) (fun b _ h=>h) ⟨rfl,x3.trans h16,?_,?_⟩
  ·rw [lastD_next hkr2];exact g2a.ext h16
  ·rw [lastB_next hkr2];exact y3.ext h16
 ·intro D Sr wr hD hM hold hnD hDr hI;have hE:=Ext.refl wr;obtain⟨rfl,hx,g2,g3⟩:=hI;have dr:DR wr D:=hDr;refine AQ.blockNormal ?_;refine AQ.then ?_;refine EC.seq ?_;refine EC.drawA (fun i=>[0,0,3,3].getD i 0) (by kernel_rfl) 4 rfl ?_
  refine EA.take 0 (by kernel_rfl) ?_
  intro c17;refine EX.ex rfl rfl rfl rfl (Exa.loadAgg (vs:=(lnC (lastD lnZ (xs.take (xs.map fun x=>[Value.agg (lnC x).toArray]).length)))) agg43 rfl (g2.at)) ?_
  refine EA.back c17 ?_;refine EA.two 1 2 (by kernel_rfl) ?_ ?_
  ·
    intro c18;refine EX.ex rfl rfl rfl rfl (Exa.load flat4 rfl (g3.cell rfl)) ?_;refine EA.back c18 ?_;refine EA.only 2 (by kernel_rfl) ?_
    intro c19;refine EX.bar rfl rfl rfl rfl (fun w20 h20=>Stp.store (by kernel_rfl) rfl rfl (g2.ext h20) rfl rfl (fun w21 u21 r21=>?_))
    have b21:=(hx.trans h20).upd u21 hB2;have x21_3:=u21.row (g3.ext h20) (by omega)
    have y21_dr:=(dr.ext h20).upd u21 (by omega)
    refine EA.back c19 ?_;refine EA.only 3 (by kernel_rfl) ?_
    intro c22;refine EX.bar rfl rfl rfl rfl (fun w23 h23=>Stp.store (by kernel_rfl) rfl rfl (x21_3.ext h23) rfl rfl (fun w24 u24 r24=>?_))
    have b24:=(b21.trans h23).upd u24 hB3;have x24_2:=u24.row (r21.ext h23) (by omega)
    have y24_dr:=(y21_dr.ext h23).upd u24 (by omega)
    refine EA.back c22 ?_;refine EA.nil (by kernel_rfl) (fun w25 h25=>?_)
    refine AQ.then ?_;refine EC.ret ?_;have hlx:(xs.map fun x=>[Value.agg (lnC x).toArray]).length=xs.length:=List.length_map _
    exact AQ.outC (.inr rfl) [D] (fun dl a ha w' hm=>resC2 Tryz.results31 rfl rfl (LV.agg (hm.row (x24_2.ext h25) (by simp;omega)) agg43) (LV.flat flat4 (hm.row (r24.ext h25) (by simp;omega))) dl a ha) (by simp) (by simpa [DR] using (y24_dr.ext h25)) (fun w' hm=>⟨by rw [hlx,List.take_length];rfl,(b24.trans h25).modify hm (fun k hk=>by rw [List.mem_singleton]at hk;subst hk;exact Nat.le_trans hw1.size hD)⟩)
  ·
    intro c26;refine EX.bar rfl rfl rfl rfl (fun w27 h27=>Stp.store (by kernel_rfl) rfl rfl (g2.ext h27) rfl rfl (fun w28 u28 r28=>?_))
    have b28:=(hx.trans h27).upd u28 hB2;have x28_3:=u28.row (g3.ext h27) (by omega)
    have y28_dr:=(dr.ext h27).upd u28 (by omega)
    refine EA.back c26 ?_;refine EA.take 1 (by kernel_rfl) ?_
    intro c29;refine EX.ex rfl rfl rfl rfl (Exa.load flat4 rfl (x28_3.cell rfl)) ?_;refine EA.back c29 ?_;refine EA.only 3 (by kernel_rfl) ?_
    intro c30;refine EX.bar rfl rfl rfl rfl (fun w31 h31=>Stp.store (by kernel_rfl) rfl rfl (x28_3.ext h31) rfl rfl (fun w32 u32 r32=>?_))
    have b32:=(b28.trans h31).upd u32 hB3;have x32_2:=u32.row (r28.ext h31) (by omega)
    have y32_dr:=(y28_dr.ext h31).upd u32 (by omega)
    refine EA.back c30 ?_;refine EA.nil (by kernel_rfl) (fun w33 h33=>?_)
    refine AQ.then ?_;refine EC.ret ?_;have hlx:(xs.map fun x=>[Value.agg (lnC x).toArray]).length=xs.length:=List.length_map _
    exact AQ.outC (.inr rfl) [D] (fun dl a ha w' hm=>resC2 Tryz.results31 rfl rfl (LV.agg (hm.row (x32_2.ext h33) (by simp;omega)) agg43) (LV.flat flat4 (hm.row (r32.ext h33) (by simp;omega))) dl a ha) (by simp) (by simpa [DR] using (y32_dr.ext h33)) (fun w' hm=>⟨by rw [hlx,List.take_length];rfl,(b32.trans h33).modify hm (fun k hk=>by rw [List.mem_singleton]at hk;subst hk;exact Nat.le_trans hw1.size hD)⟩)
 ·intro D c Sr wr hD hM hold hnD hDr hX;have hE:=Ext.refl wr;exact hX.elim
end Go.Proofs.YtobpljbkdffkbaaGreat
