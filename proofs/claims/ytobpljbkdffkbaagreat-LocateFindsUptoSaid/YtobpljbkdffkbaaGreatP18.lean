/- A part of the proof (texts W5, W6, W7, W8, W9). -/
import Derived.Test.YtobpljbkdffkbaaGreatP02
import Derived.Test.YtobpljbkdffkbaaGreatP09
import Derived.Test.YtobpljbkdffkbaaGreatP17
set_option linter.all false
set_option maxRecDepth 100000
namespace Go.Proofs.YtobpljbkdffkbaaGreat
open Go.RowKit Go.XK Go.LocateLaw
theorem ownq_low {w:World} {base base':Nat} {e:TypeId} {size n:Nat} {v:Value} {xs:List Value} (h:OwnQ w base e size v n xs) (hb:base'≤base):OwnQ w base' e size v n xs:=by
 refine⟨h.1,?_⟩;rcases h.2 with h2|⟨g,o,cap,cur,hv,hg,r⟩
 ·exact .inl h2
 ·exact .inr ⟨g,o,cap,cur,hv,Nat.le_trans hb hg,r⟩
theorem LR.of_q {α:Type} {K:Nat} {f:α→List Value} {w:World} {base:Nat} {e:TypeId} {v:Value} {l:List α} (hf:∀ b,(f b).length=K) (h:OwnQ w base e K v l.length (l.map f).flatten):LR K f w v l:=LR.of_map hf h.reads
set_option maxRecDepth 100000 in
theorem appseq_ilC (xs:List Il) (gf:Nat) (caps:List Value) (mem:Nat→Prop) (w:World) (hgf:FnOK Tryz.prog gf) (hmm:∀ b,mem b→b<w.heap.size) (hseq:∀ W,Ext w W→SeqC Tryz.prog gf caps mem (xs.map fun x=>[Value.agg (ilC x).toArray]) W) (hm8:xs.length≤60) :
   Calls Tryz.prog 90 [.slice none 0 0,.func (.func gf) #[] caps.toArray].toArray w fun e w'=>∃ v',e=.returned v'∧Ext w w'∧OwnQ w' w.heap.size 57 6 v' xs.length (xs.map ilC).flatten:=by
 refine calls_ofM Tryz.func90 rfl Tryz.ntmps90 rfl ?_;refine EC.seq ?_;refine EC.region (fun i=>[2,1].getD i 0) [0,1] rfl ?_
 refine ER.st rfl rfl rfl rfl (fun w1 h1=>Stp.box rfl (fun w2 h2 s2 r2=>⟨h2,?_⟩))
 have hB5:=h1.size;refine ER.sil rfl rfl rfl rfl (Sil.assign rfl) ?_;refine ER.nil (fun w3 h3=>?_)
 refine AQ.then ?_;refine EC.seq ?_;refine EC.seq ?_;refine EC.region (fun i=>[1].getD i 0) [0] rfl ?_
 refine ER.sil rfl rfl rfl rfl (Sil.move rfl) ?_;refine ER.nil (fun w4 h4=>?_)
 refine AQ.then ?_;refine EC.block ?_;have hw1:=(((h1.trans h2).trans h3).trans h4);have k50:=(r2.ext (h3.trans h4));have hl5:=k50.lt
 refine EC.rangeA (xs:=((xs.map fun x=>[Value.agg (ilC x).toArray]))) (mem:=(mem)) rfl hgf rfl (fun x hx=>by obtain⟨y,_,rfl⟩:=List.mem_map.1 hx;rfl)
   (fun j S1 W=>∃ ov,S1=(fun b=>b=w1.heap.size∨ov.ownBlock=some b)∧Ext w W∧Row W w1.heap.size 32 [ov]∧OwnQ W (w1.heap.size+1) 57 6 ov (xs.take j).length ((xs.take j).map ilC).flatten)
   (fun _ _ _=>False)
   (fun j S1 W W' h m=>by
       obtain⟨ov,rfl,hx,h5,ho⟩:=h
       exact⟨ov,rfl,hx.modify m (fun k hk=>Nat.le_trans hw1.size hk.1),m.row h5 (fun hb=>hb.2 (.inl rfl)),ho.mod m (fun k hk hb=>hb.2 (.inr hk))⟩) (fun _ _ _ _ h _=>h) (fun j S1 W h b hb=>by
       obtain⟨ov,rfl,hx,h5,ho⟩:=h;rcases hb with rfl|hb
       ·exact h5.lt
       ·exact(ho.lt b hb).2)
   (fun W1 hW=>hseq W1 (hw1.trans hW)) (fun b=>b=w1.heap.size∨Value.ownBlock (.slice none 0 0)=some b) (fun b hb=>⟨fun hs=>hs.elim (fun e=>by have:=hmm b hb;omega) (fun e=>by cases e),Nat.lt_of_lt_of_le (hmm b hb) hw1.size⟩) (⟨_,rfl,hw1,k50,OwnQ.of_own (World.ownsRow_nil _ _ _ _)⟩) (fun k E W=>∃ b,∃ hk:k<(xs).length,E=[(2,ptr w1.heap.size),(5,ptr b)]∧Row W b 57 (ilC (xs)[k])∧w4.heap.size+1<b) (fun k E W W' h m=>by
       obtain⟨b,hk,rfl,h1,h2⟩:=h
       exact⟨b,hk,rfl,m.row h1 (fun e=>by omega),h2⟩) ?_ ?_ ?_ ?_
 ·intro lr kr wr hkr hlr;have hE:=Ext.refl wr;have hkr2:kr<(xs).length:=by simpa using hkr
  rw [List.getElem_map];refine EC.region (fun i=>[2,3].getD i 0) [0,1] rfl ?_
  refine ER.st rfl rfl rfl rfl (fun w5 h5=>Stp.alloc inf57 (fun w6 h6 s6 r6=>⟨h6,?_⟩))
  have hn4:=Nat.le_trans hE.size h5.size;refine ER.bar rfl rfl rfl rfl (fun w7 h7=>Stp.store (by kernel_rfl) rfl rfl (r6.ext h7) rfl rfl (fun w8 u8 r8=>?_))
  have e8:=((h5.trans h6).trans h7).upd u8 h5.size;refine ER.nil (fun w9 h9=>?_)
  exact AQ.assignedA (A:=fun E W=>(fun k E W=>∃ b,∃ hk:k<(xs).length,E=[(2,ptr w1.heap.size),(5,ptr b)]∧Row W b 57 (ilC (xs)[k])∧w4.heap.size+1<b) kr E W) [2,5] rfl ((hE.trans e8).trans h9) (⟨_,by simpa using hkr,rfl,(r8.ext h9),by omega⟩)
 ·intro lr kr Sr wr Er hkr hI hM hA;have hE:=Ext.refl wr;obtain⟨ov,rfl,hx,k5,ho⟩:=hI;obtain⟨b4,hkr2,rfl,k4,hb4⟩:=hA;refine EC.block ?_;refine EC.region (fun i=>[0,0,2,3,3].getD i 0) [0,1,2,3,4] rfl ?_
  refine ER.ex rfl rfl rfl rfl (Exa.load flat32 rfl ((k5.ext hE).cell rfl)) ?_;refine ER.ex rfl rfl rfl rfl (Exa.loadAgg (vs:=(ilC xs[kr])) agg57 rfl ((k4.ext hE).at)) ?_;refine ER.st rfl rfl rfl rfl (fun w10 h10=>Stp.buildAll [_] Tryz.underlying32 inf57 rfl rfl rfl rfl rfl rfl (fun w11 h11 s11 r11=>⟨h11,?_⟩))
  refine ER.bar rfl rfl rfl rfl (fun w12 h12=>?_)
  have hoa:=ho.ext (((hE.trans h10).trans h11).trans h12);have hsa:=(((hE.trans h10).trans h11).trans h12).size;have hxa:=hx.trans (((hE.trans h10).trans h11).trans h12);refine Stp.appendQ Tryz.underlying32 inf57 rfl rfl rfl hoa (Nat.le_trans (Nat.succ_le_of_lt k5.lt) hsa) (Reads.of_row (r11.ext h12) rfl (by decide)) (by intro q hq;simp [catCells,Value.cells]at hq;exact il1 _ q hq) (by rw [List.length_take];omega) (by unfold maxLen;rw [List.length_take];omega) (fun vq w13 ob g13 nb=>?_)
  obtain⟨qa,qc,rfl,_⟩:=ob.reads.isS;have hMb:=((((hE.trans h10).trans h11).trans h12).mod (fun b=>b=w1.heap.size∨ov.ownBlock=some b)).trans (Mod.of_grown g13 (fun k hk=>.inr hk))
  have hob:=fun b (hb:b<wr.heap.size) (hs:b=w1.heap.size∨Value.ownBlock (.slice qa _ qc)=some b)=>hs.imp (fun h=>h) (fun hs=>(nb b hs).elim (fun h=>h) (fun hge=>absurd hb (by omega)))
  have hxb:=hxa.grown g13 (fun k hk=>Nat.le_trans hB5 (Nat.le_of_succ_le (hoa.lt k hk).1))
  have k5b:=(k5.ext (((hE.trans h10).trans h11).trans h12)).grown g13 (fun e=>by have:=(hoa.lt _ e.symm).1;omega)
  refine ER.bar rfl rfl rfl rfl (fun w14 h14=>Stp.store (by kernel_rfl) rfl rfl (k5b.ext ((Ext.refl _).trans h14)) rfl rfl (fun w15 u15 r5=>?_))
  have hMc:=(hMb.trans (((Ext.refl _).trans h14).mod _)).trans (u15.mod (S:=fun b=>b=w1.heap.size∨ov.ownBlock=some b) (.inl rfl))
  have hxc:=(hxb.trans ((Ext.refl _).trans h14)).upd u15 hB5;have hoc:=(ob.ext ((Ext.refl _).trans h14)).upd u15 (fun k hk=>by have:=(ob.lt k hk).1;omega)
  refine ER.nil (fun w16 h16=>?_)
  refine AQ.blockNormal ?_;refine AQ.rqN (fun b=>b=w1.heap.size∨_) (hMc.trans (h16.mod _)) hob ⟨_,rfl,hxc.trans h16,r5.ext h16,?_⟩
  rw [List.take_succ_eq_append_getElem hkr2,List.length_append,List.map_append,List.flatten_append];exact hoc.ext h16
 ·intro D Sr wr hD hM hold hnD hDr hI;have hE:=Ext.refl wr;obtain⟨ov,rfl,hx,k5,ho⟩:=hI;refine AQ.blockNormal ?_;refine AQ.then ?_;refine EC.seq ?_;refine EC.region (fun i=>[0,1].getD i 0) [0,1] rfl ?_
  refine ER.ex rfl rfl rfl rfl (Exa.load flat32 rfl ((k5.ext hE).cell rfl)) ?_;refine ER.sil rfl rfl rfl rfl (Sil.assign rfl) ?_;refine ER.nil (fun w17 h17=>?_)
  refine AQ.then ?_;refine EC.ret ?_;have hlx:(xs.map fun x=>[Value.agg (ilC x).toArray]).length=xs.length:=List.length_map _
  rw [hlx,List.take_length]at ho;obtain⟨va,vc,rfl,_⟩:=ho.reads.isS;exact AQ.outM (.inr rfl) [D] (res1 Tryz.results90 rfl) (by simp) (by simpa using Ext.obj (hE.trans h17) hDr) (fun w' hm=>⟨_,rfl,(hx.trans (hE.trans h17)).modify hm (fun k hk=>by rw [List.mem_singleton]at hk;subst hk;exact Nat.le_trans hw1.size hD),ownq_low ((ho.ext (hE.trans h17)).mod hm (fun k hk hb=>by rw [List.mem_singleton]at hb;subst hb;exact hnD (.inr hk))) (by omega)⟩)
 ·intro D c Sr wr hD hM hold hnD hDr hX;have hE:=Ext.refl wr;exact hX.elim
set_option maxRecDepth 100000 in
theorem collect_ilC (xs:List Il) (gf:Nat) (caps:List Value) (mem:Nat→Prop) (w:World) (hgf:FnOK Tryz.prog gf) (hmm:∀ b,mem b→b<w.heap.size) (hseq:∀ W,Ext w W→SeqC Tryz.prog gf caps mem (xs.map fun x=>[Value.agg (ilC x).toArray]) W) (hm8:xs.length≤60) :
   Calls Tryz.prog 33 [.func (.func gf) #[] caps.toArray].toArray w fun e w'=>∃ v',e=.returned v'∧Ext w w'∧OwnQ w' w.heap.size 57 6 v' xs.length (xs.map ilC).flatten:=by
 refine calls_of Tryz.func33 rfl Tryz.ntmps33 rfl ?_;refine EC.seq ?_;refine EC.region (fun i=>[1].getD i 0) [0] rfl ?_
 refine ER.sil rfl rfl rfl rfl (Sil.assign rfl) ?_;refine ER.nil (fun w1 h1=>?_)
 refine AQ.then ?_;refine EC.seq ?_;refine EC.region (fun i=>[1,2,1].getD i 0) [0,1,2] rfl ?_
 refine ER.sil rfl rfl rfl rfl (Sil.move rfl) ?_;have hes:=h1.size;refine ER.st rfl rfl rfl rfl (fun w2 h2=>Stp.call fok90 rfl rfl (Calls.mono ((appseq_ilC xs gf caps mem w2 hgf (fun b hb=>Nat.lt_of_lt_of_le (hmm b hb) (h1.trans h2).size) (fun W hW=>hseq W ((h1.trans h2).trans hW)) hm8)) ?_))
 rintro _ w3 ⟨v3,rfl,h3,ho3⟩;refine⟨_,rfl,h3,?_⟩;have hes2:=h2.size;refine ER.sil rfl rfl rfl rfl (Sil.assign rfl) ?_;refine ER.nil (fun w4 h4=>?_)
 refine AQ.then ?_;refine EC.ret ?_;refine AQ.ret1 Tryz.results33 rfl ?_;exact⟨_,rfl,(((h1.trans h2).trans h3).trans h4),ownq_low (ho3.ext h4) (by omega)⟩
end Go.Proofs.YtobpljbkdffkbaaGreat
namespace Go.Proofs.YtobpljbkdffkbaaGreat
open Go.RowKit Go.XK Go.LocateLaw
set_option maxRecDepth 100000 in
theorem find_any (cs:List Value) (inf:Inf) (s:ByteArray) (w:World) (hi:InfC w cs inf) :
   Calls Tryz.prog 11 [.agg cs.toArray,.string s].toArray w fun e w'=>e=.returned (.tuple #[.int .i64 (findAt inf s),.bool (findB inf s)])∧Ext w w':=by
 obtain⟨mv,hev,hml⟩:=hi.2.1;have hhd:=List.head?_filter (p:=fnP s) (l:=inf.marks);refine calls_ofM Tryz.func11 rfl Tryz.ntmps11 rfl ?_;refine EC.seq ?_;refine EC.region (fun i=>[2,2,2,2].getD i 0) [0,1,2,3] rfl ?_
 refine ER.st rfl rfl rfl rfl (fun w1 h1=>Stp.box rfl (fun w2 h2 s2 r2=>⟨h2,?_⟩))
 refine ER.st rfl rfl rfl rfl (fun w3 h3=>Stp.box rfl (fun w4 h4 s4 r4=>⟨h4,?_⟩))
 refine ER.st rfl rfl rfl rfl (fun w5 h5=>Stp.alloc inf3 (fun w6 h6 s6 r6=>⟨h6,?_⟩))
 have hn4:=h5.size;have hb4:=Nat.le_trans (((h1.trans h2).trans h3).trans h4).size h5.size;have hl4:=r6.lt;refine ER.st rfl rfl rfl rfl (fun w7 h7=>Stp.alloc inf4 (fun w8 h8 s8 r8=>⟨h8,?_⟩))
 have hn5:=h7.size;have hb5:=Nat.le_trans (((((h1.trans h2).trans h3).trans h4).trans h5).trans h6).size h7.size;refine ER.nil (fun w9 h9=>?_)
 refine AQ.then ?_;refine EC.seq ?_;refine EC.seq ?_;refine EC.region (fun i=>[1,1,0,1,2].getD i 0) [0,1,2,3,4] rfl ?_
 refine ER.sil rfl rfl rfl rfl (Sil.fieldAddr Tryz.underlying39 rfl inf36 rfl) ?_;refine ER.sil rfl rfl rfl rfl (Sil.fieldAddr Tryz.underlying36 rfl inf29 rfl) ?_;refine ER.ex rfl rfl rfl rfl (Exa.load flat29 rfl (((r2.ext ((((((h3.trans h4).trans h5).trans h6).trans h7).trans h8).trans h9))).cell hev)) ?_;refine ER.sil rfl rfl rfl rfl (Sil.makeFunc rfl rfl) ?_;have hes:=(r8.ext h9).lt;refine ER.st rfl rfl rfl rfl (fun w10 h10=>Stp.call fok29 rfl rfl (Calls.mono ((some_mkC_any mv _ w10 hml.isS3 ⟨_,_,_,rfl⟩)) ?_))
 rintro _ w11 ⟨v11,rfl,h11,⟨c1,c2,hv11,hc111,hc211,hl1,hl2⟩⟩;refine⟨_,rfl,h11,?_⟩;subst hv11;have hes2:=h10.size;refine ER.nil (fun w12 h12=>?_)
 refine AQ.then ?_;refine EC.block ?_;have hw1:=(((((((((((h1.trans h2).trans h3).trans h4).trans h5).trans h6).trans h7).trans h8).trans h9).trans h10).trans h11).trans h12);have hx4:=(((((((h5.trans h6).trans h7).trans h8).trans h9).trans h10).trans h11).trans h12);have k40:=(r6.ext (((((h7.trans h8).trans h9).trans h10).trans h11).trans h12));have k50:=(r8.ext (((h9.trans h10).trans h11).trans h12));have hc1:=(hc111.ext h12);have hc2:=(hc211.ext h12);have hl5:=k50.lt
 refine EC.rangeA (xs:=(((inf.marks.filter (fnP s)).map fun x=>[Value.agg (mkC x).toArray]))) (mem:=(fun b=>b<w4.heap.size∨b=c1∨b=c2)) rfl fok89 rfl (fun x hx=>by obtain⟨y,_,rfl⟩:=List.mem_map.1 hx;rfl)
   (fun j S1 W=>S1=(fun b=>b=w5.heap.size∨b=w7.heap.size)∧Ext w W∧Row W w5.heap.size 3 [.int .i64 0]∧Row W w7.heap.size 4 [.bool false]∧j=0)
   (fun c S1 W=>c=.ret∧S1=(fun b=>b=w5.heap.size∨b=w7.heap.size)∧Ext w W∧Row W w5.heap.size 3 [.int .i64 (findAt inf s)]∧Row W w7.heap.size 4 [.bool (findB inf s)])
   (fun j S1 W W' h m=>by
       obtain⟨rfl,hx,g4,g5,h0⟩:=h
       exact⟨rfl,hx.modify m (fun k hk=>Nat.le_trans hw1.size hk.1),m.row g4 (fun hb=>hb.2 (.inl rfl)),m.row g5 (fun hb=>hb.2 (.inr rfl)),h0⟩) (fun c S1 W W' h m=>by
       obtain⟨hc,rfl,hx,g4,g5⟩:=h
       exact⟨hc,rfl,hx.modify m (fun k hk=>Nat.le_trans hw1.size hk.1),m.row g4 (fun hb=>hb.2 (.inl rfl)),m.row g5 (fun hb=>hb.2 (.inr rfl))⟩) (fun j S1 W h b hb=>by
       obtain⟨rfl,hx,g4,g5,h0⟩:=h;rcases hb with rfl|rfl
       ·exact g4.lt
       ·exact g5.lt)
   (fun W1 hW=>some_mkC_seq inf.marks mv _ [ptr w3.heap.size] (fnP s) w4 c1 c2 W1 (hx4.trans hW) (hml.ext (((h1.trans h2).trans h3).trans h4)) fok37 (fun x wz hz=>find1_any x s w3.heap.size wz (r4.ext hz)) (hc1.ext hW) (hc2.ext hW)) ((fun b=>b=w5.heap.size∨b=w7.heap.size)) (fun b hb=>by
       have hxs:=hx4.size;rcases hb with h|rfl|rfl
       ·exact⟨fun hs=>hs.elim (fun e=>by omega) (fun e=>by omega),by omega⟩
       ·exact⟨fun hs=>hs.elim (fun e=>by omega) (fun e=>by omega),hc1.lt⟩
       ·exact⟨fun hs=>hs.elim (fun e=>by omega) (fun e=>by omega),hc2.lt⟩) (⟨rfl,hw1,k40,k50,rfl⟩) (fun k E W=>∃ b,∃ hk:k<(inf.marks.filter (fnP s)).length,E=[(4,ptr w5.heap.size),(5,ptr w7.heap.size),(6,ptr b)]∧Row W b 53 (mkC (inf.marks.filter (fnP s))[k])∧w12.heap.size+1<b) (fun k E W W' h m=>by
       obtain⟨b,hk,rfl,h1,h2⟩:=h
       exact⟨b,hk,rfl,m.row h1 (fun e=>by omega),h2⟩) ?_ ?_ ?_ ?_
 ·intro lr kr wr hkr hlr;have hE:=Ext.refl wr;have hkr2:kr<(inf.marks.filter (fnP s)).length:=by simpa using hkr
  rw [List.getElem_map];refine EC.region (fun i=>[2,3].getD i 0) [0,1] rfl ?_
  refine ER.st rfl rfl rfl rfl (fun w13 h13=>Stp.alloc inf53 (fun w14 h14 s14 r14=>⟨h14,?_⟩))
  have hn6:=Nat.le_trans hE.size h13.size;refine ER.bar rfl rfl rfl rfl (fun w15 h15=>Stp.store (by kernel_rfl) rfl rfl (r14.ext h15) rfl rfl (fun w16 u16 r16=>?_))
  have e16:=((h13.trans h14).trans h15).upd u16 h13.size;refine ER.nil (fun w17 h17=>?_)
  exact AQ.assignedA (A:=fun E W=>(fun k E W=>∃ b,∃ hk:k<(inf.marks.filter (fnP s)).length,E=[(4,ptr w5.heap.size),(5,ptr w7.heap.size),(6,ptr b)]∧Row W b 53 (mkC (inf.marks.filter (fnP s))[k])∧w12.heap.size+1<b) kr E W) [4,5,6] rfl ((hE.trans e16).trans h17) (⟨_,by simpa using hkr,rfl,(r16.ext h17),by omega⟩)
 ·intro lr kr Sr wr Er hkr hI hM hA;have hE:=Ext.refl wr;obtain⟨rfl,hx,g4,g5,rfl⟩:=hI;obtain⟨b6,hkr2,rfl,k6,hb6⟩:=hA
  have hfs:findS inf s=some (inf.marks.filter (fnP s))[0]:=by
    rw [findS,← hhd,List.head?_eq_getElem?,List.getElem?_eq_getElem hkr2]
  have hfa:findAt inf s=(inf.marks.filter (fnP s))[0].at_:=by rw [findAt,hfs]
  have hfb:findB inf s=true:=by rw [findB,hfs];rfl
  refine EC.block ?_;refine EC.seq ?_;refine EC.region (fun i=>[1,0,3,3].getD i 0) [0,1,2,3] rfl ?_
  refine ER.sil rfl rfl rfl rfl (Sil.fieldAddr Tryz.underlying53 rfl inf3 rfl) ?_;refine ER.ex rfl rfl rfl rfl (Exa.load flat3 rfl ((k6.ext hE).cell rfl)) ?_;refine ER.bar rfl rfl rfl rfl (fun w18 h18=>Stp.store (by kernel_rfl) rfl rfl (g4.ext (hE.trans h18)) rfl rfl (fun w19 u19 y4=>?_))
  have x4:=(hx.trans (hE.trans h18)).upd u19 hb4;have M4:=((hE.trans h18).mod (fun b=>b=w5.heap.size∨b=w7.heap.size)).trans (u19.mod (S:=(fun b=>b=w5.heap.size∨b=w7.heap.size)) (.inl rfl))
  have g5a:=u19.row (g5.ext (hE.trans h18)) (by omega)
  refine ER.bar rfl rfl rfl rfl (fun w20 h20=>Stp.store (by kernel_rfl) rfl rfl (g5a.ext ((Ext.refl _).trans h20)) rfl rfl (fun w21 u21 y5=>?_))
  have x5:=(x4.trans ((Ext.refl _).trans h20)).upd u21 hb5;have M5:=(M4.trans (((Ext.refl _).trans h20).mod _)).trans (u21.mod (S:=(fun b=>b=w5.heap.size∨b=w7.heap.size)) (.inr rfl))
  have g4a:=u21.row (y4.ext ((Ext.refl _).trans h20)) (by omega)
  refine ER.nil (fun w22 h22=>?_)
  refine AQ.then ?_;refine EC.ret ?_;refine AQ.blockRet ?_;exact AQ.rqR (fun b=>b=w5.heap.size∨b=w7.heap.size) (M5.trans (h22.mod _)) (fun b _ h=>h) ⟨rfl,rfl,x5.trans h22,by rw [hfa];exact g4a.ext h22,by rw [hfb];exact y5.ext h22⟩
 ·intro D Sr wr hD hM hold hnD hDr hI;have hE:=Ext.refl wr;obtain⟨rfl,hx,g4,g5,hz⟩:=hI;have dr:DR wr D:=hDr
  have hfs:findS inf s=none:=by
    rw [List.length_map]at hz;rw [findS,← hhd,List.eq_nil_of_length_eq_zero hz];rfl
  have hfa:findAt inf s=0:=by rw [findAt,hfs]
  have hfb:findB inf s=false:=by rw [findB,hfs];rfl
  refine AQ.blockNormal ?_;refine AQ.then ?_;refine EC.seq ?_;refine EC.region (fun i=>[3,3].getD i 0) [0,1] rfl ?_
  refine ER.bar rfl rfl rfl rfl (fun w23 h23=>Stp.store (by kernel_rfl) rfl rfl (g4.ext h23) rfl rfl (fun w24 u24 r24=>?_))
  have b24:=(hx.trans h23).upd u24 hb4;have x24_5:=u24.row (g5.ext h23) (by omega)
  have y24_dr:=(dr.ext h23).upd u24 (by omega)
  refine ER.bar rfl rfl rfl rfl (fun w25 h25=>Stp.store (by kernel_rfl) rfl rfl (x24_5.ext h25) rfl rfl (fun w26 u26 r26=>?_))
  have b26:=(b24.trans h25).upd u26 hb5;have x26_4:=u26.row (r24.ext h25) (by omega)
  have y26_dr:=(y24_dr.ext h25).upd u26 (by omega)
  refine ER.nil (fun w27 h27=>?_)
  refine AQ.then ?_;refine EC.ret ?_;exact AQ.outC (.inr rfl) [D] (fun dl a ha w' hm=>resC2 Tryz.results11 rfl rfl (LV.flat flat3 (hm.row (x26_4.ext h27) (by simp;omega))) (LV.flat flat4 (hm.row (r26.ext h27) (by simp;omega))) dl a ha) (by simp) (by simpa [DR] using (y26_dr.ext h27)) (fun w' hm=>⟨by rw [hfa,hfb],(b26.trans h27).modify hm (fun k hk=>by rw [List.mem_singleton]at hk;subst hk;exact Nat.le_trans hw1.size hD)⟩)
 ·intro D c Sr wr hD hM hold hnD hDr hX;have hE:=Ext.refl wr;obtain⟨rfl,rfl,hx,g4,g5⟩:=hX;refine EC.ret ?_;refine AQ.blockRet ?_;refine AQ.thenRet ?_;exact AQ.outC (.inr rfl) [D] (fun dl a ha w' hm=>resC2 Tryz.results11 rfl rfl (LV.flat flat3 (hm.row g4 (by simp;omega))) (LV.flat flat4 (hm.row g5 (by simp;omega))) dl a ha) (by simp) (by simpa [DR] using hDr) (fun w' hm=>⟨rfl,hx.modify hm (fun k hk=>by rw [List.mem_singleton]at hk;subst hk;exact Nat.le_trans hw1.size hD)⟩)
end Go.Proofs.YtobpljbkdffkbaaGreat
namespace Go.Proofs.YtobpljbkdffkbaaGreat
open Go.RowKit Go.XK Go.LocateLaw
theorem LR.drop {α:Type} {K:Nat} {f:α→List Value} {w:World} {v:Value} {l:List α} (hf:∀ b,(f b).length=K) (h:LR K f w v l) {i:Nat} (hi:i≤l.length):LR K f w (dropV K v i) (l.drop i):=by
 refine LR.of_map hf ?_;have:=Reads.dropV h.reads hi;rw [List.length_drop,List.map_drop]
 have e:∀ (l:List α) (i:Nat),(l.map f).flatten.drop (i*K)=((l.map f).drop i).flatten:=by
   intro l
   induction l with
   |nil=>intro i;simp
   |cons x r ih =>
     intro i
     cases i with
     |zero=>simp
     |succ i =>
       have hx:=hf x;rw [List.map_cons,List.flatten_cons,List.drop_succ_cons,← ih i,Nat.succ_mul,Nat.add_comm,← List.drop_drop,List.drop_left' hx]
 rw [← e];exact this
end Go.Proofs.YtobpljbkdffkbaaGreat
namespace Go.Proofs.YtobpljbkdffkbaaGreat
open Go.RowKit Go.XK Go.LocateLaw
structure RevS where
 i:Nat
 m:List Il
theorem take_add {a b:List Value} {K i:Nat} (h:a.length=K):(a++b).take (K+i)=a++b.take i:=by
 rw [← h,List.take_length_add_append]
theorem drop_add {a b:List Value} {K i:Nat} (h:a.length=K):(a++b).drop (K+i)=b.drop i:=by
 rw [← h,List.drop_length_add_append]
theorem flat_lenL {α:Type} {K:Nat} {f:α→List Value} (hf:∀ b,(f b).length=K):∀ l:List α,(l.map f).flatten.length=l.length*K
 |[]=>by simp
 |x::r=>by rw [List.map_cons,List.flatten_cons,List.length_append,hf,flat_lenL hf r,List.length_cons,Nat.add_mul];omega
theorem putL_map {α:Type} {K:Nat} {f:α→List Value} (hf:∀ b,(f b).length=K) (x:α):∀ (l:List α) (i:Nat),i<l.length→putL (l.map f).flatten (i*K) (f x)=((l.set i x).map f).flatten
 |[],i,h=>absurd h (Nat.not_lt_zero i)
 |y::r,0,_=>by
   have hy:=hf y;have hx:=hf x;simp only [putL,Nat.zero_mul,List.take_zero,List.nil_append,Nat.zero_add,List.map_cons,List.flatten_cons,List.set_cons_zero];rw [List.drop_left' (by rw [hx,hy])]
 |y::r,i+1,h=>by
   have hy:=hf y;have ih:=putL_map hf x r i (by simpa using h)
   simp only [putL,List.map_cons,List.flatten_cons,List.set_cons_succ]at ih ⊢;rw [← ih,Nat.add_mul,Nat.one_mul,Nat.add_comm (i*K) K,take_add hy,Nat.add_assoc,drop_add hy];simp
theorem ownq_block {w:World} {base:Nat} {e:TypeId} {size n:Nat} {v:Value} {xs:List Value} (h:OwnQ w base e size v n xs) (hn:0<n):v.ownBlock=some (blk v):=by
 rcases h.2 with ⟨_,h0⟩|⟨g,o,cap,cur,rfl,_⟩
 ·omega
 ·rfl
theorem q_at {α:Type} {K:Nat} {f:α→List Value} {w:World} {base:Nat} {e:TypeId} {v:Value} {m:List α} (hf:∀ b,(f b).length=K) (h:OwnQ w base e K v m.length (m.map f).flatten) {i:Nat} (hi:i<m.length):At w (blk v) (ofs v+i*K) (f m[i]):=(LR.of_q hf h).at hi
set_option maxRecDepth 100000 in
theorem reverse_any (l:List Il) (v:Value) (base:Nat) (w:World) (ho:OwnQ w base 57 6 v l.length (l.map ilC).flatten) (hm8:l.length≤60) :
   Calls Tryz.prog 36 [v].toArray w fun e w'=>e=.returned (.tuple #[])∧Mod (fun b=>v.ownBlock=some b) w w'∧OwnQ w' base 57 6 v l.length (l.reverse.map ilC).flatten:=by
 have hr:=LR.of_q ilL ho;have hm:=hr.max;refine calls_of Tryz.func36 rfl Tryz.ntmps36 rfl ?_;refine EC.seq ?_;refine EC.region (fun i=>[1,1,1,1,1].getD i 0) [0,1,2,3,4] rfl ?_
 refine ER.sil rfl rfl rfl rfl (Sil.move rfl) ?_;refine ER.sil rfl rfl rfl rfl (Sil.lenR Tryz.underlying32 rfl (hr.isS)) ?_;refine ER.sil rfl rfl rfl rfl (Sil.sub rfl rfl) ?_;rw [show IntKind.i64.wrap ((l.length:Int)-1)=(l.length:Int)-1-((0:Nat):Int)from by rw [IntWalk.i64_in _ (by omega)];omega]
 refine ER.sil rfl rfl rfl rfl (Sil.assign rfl) ?_;refine ER.sil rfl rfl rfl rfl (Sil.assign rfl) ?_;refine ER.nil (fun w1 h1=>?_)
 refine AQ.then ?_;refine EC.block ?_;refine EC.loop (σ:=RevS) (fun q=>[(0,v),(2,.int .i64 (q.i:Int)),(3,.int .i64 ((l.length:Int)-1-(q.i:Int)))]) (fun q wr=>Mod (fun b=>v.ownBlock=some b) w wr∧RevI l q.m q.i∧q.i≤l.length∧OwnQ wr base 57 6 v q.m.length (q.m.map ilC).flatten) (fun q=>l.length-q.i) ⟨0,l⟩ [0,2,3] rfl ?_ (fun q wr hF=>?_)
 ·exact⟨h1.mod _,RevI.start l,Nat.zero_le _,ho.ext h1⟩
 obtain⟨hM,hR,hk,hom⟩:=hF;have hE:=Ext.refl wr;have hml:=hR.1;refine EC.seq ?_;refine EC.seq ?_;refine EC.region (fun i=>[1,1,1].getD i 0) [0,1,2] rfl ?_
 refine ER.sil rfl rfl rfl rfl (Sil.move rfl) ?_;refine ER.sil rfl rfl rfl rfl (Sil.move rfl) ?_;refine ER.sil rfl rfl rfl rfl (Sil.lss rfl rfl) ?_;refine ER.nil (fun w2 h2=>?_)
 refine AQ.then ?_;refine EC.cond rfl (fun hb0=>?_) (fun hb0=>?_)
 ·
   have hij:q.i<(l.length-1-q.i):=by have:=of_decide_eq_true hb0;omega
   have hjn:((l.length:Int)-1-(q.i:Int)).toNat=(l.length-1-q.i):=by omega
   have hil:q.i<q.m.length:=by omega
   have hjl:(l.length-1-q.i)<q.m.length:=by omega
   have hob:=ownq_block hom (by omega)
   refine EC.skip ?_;refine AQ.then ?_;refine EC.seq ?_;refine EC.block ?_;refine EC.draw (fun i=>[1,1,1,1,1,1,1,0,1,1,1,0,1,3,1,3].getD i 0) [0,1,2,3,4,5,6,7,8,9,10,11,12,13,14,15] (by kernel_rfl) (by kernel_rfl) ?_
   refine ER.sil rfl rfl rfl rfl (Sil.move rfl) ?_;refine ER.sil rfl rfl rfl rfl (Sil.move rfl) ?_;refine ER.sil rfl rfl rfl rfl (Sil.move rfl) ?_;refine ER.sil rfl rfl rfl rfl (Sil.move rfl) ?_;refine ER.sil rfl rfl rfl rfl (Sil.move rfl) ?_;refine ER.sil rfl rfl rfl rfl (Sil.move rfl) ?_;refine ER.sil rfl rfl rfl rfl (Sil.indexR Tryz.underlying32 inf57 rfl rfl (hr.isE (by omega)) (by omega) (by omega)) ?_
   rw [hjn];refine ER.ex rfl rfl rfl rfl (Exa.loadAgg (vs:=(ilC q.m[(l.length-1-q.i)])) agg57 rfl ((q_at ilL hom hjl).ext (hE.trans h2))) ?_;refine ER.sil rfl rfl rfl rfl (Sil.move rfl) ?_;refine ER.sil rfl rfl rfl rfl (Sil.move rfl) ?_;refine ER.sil rfl rfl rfl rfl (Sil.indexR Tryz.underlying32 inf57 rfl rfl (hr.isE (by omega)) (by omega) (by omega)) ?_
   refine ER.ex rfl rfl rfl rfl (Exa.loadAgg (vs:=(ilC q.m[q.i])) agg57 rfl ((q_at ilL hom hil).ext (hE.trans h2))) ?_;refine ER.sil rfl rfl rfl rfl (Sil.indexR Tryz.underlying32 inf57 rfl rfl (hr.isE (by omega)) (by omega) (by omega)) ?_
   refine ER.bar rfl rfl rfl rfl (fun w3 h3=>Stp.storeQ (by kernel_rfl) rfl (hom.ext ((hE.trans h2).trans h3)) (c:=q.i*6) (by rw [flat_lenL ilL];show _+6≤_;omega) rfl rfl (by rw [flat_lenL ilL];omega) (fun w4 u4 oa=>?_))
   have ob:OwnQ w4 base 57 6 v (q.m.set q.i q.m[(l.length-1-q.i)]).length ((q.m.set q.i q.m[(l.length-1-q.i)]).map ilC).flatten:=by
     rw [List.length_set,← putL_map ilL _ _ _ hil];exact oa
   have Ma:=(hM.trans (((hE.trans h2).trans h3).mod _)).trans (u4.mod (S:=(fun b=>v.ownBlock=some b)) hob)
   refine ER.sil rfl rfl rfl rfl (Sil.indexR Tryz.underlying32 inf57 rfl rfl (hr.isE (by omega)) (by omega) (by omega)) ?_
   rw [hjn];refine ER.bar rfl rfl rfl rfl (fun w5 h5=>Stp.storeQ (by kernel_rfl) rfl (ob.ext ((Ext.refl _).trans h5)) (c:=(l.length-1-q.i)*6) (by rw [flat_lenL ilL,List.length_set];show _+6≤_;omega) rfl rfl (by rw [flat_lenL ilL,List.length_set];omega) (fun w6 u6 oc=>?_))
   have od:OwnQ w6 base 57 6 v ((q.m.set q.i q.m[(l.length-1-q.i)]).set (l.length-1-q.i) q.m[q.i]).length (((q.m.set q.i q.m[(l.length-1-q.i)]).set (l.length-1-q.i) q.m[q.i]).map ilC).flatten:=by
     rw [List.length_set,← putL_map ilL _ _ _ (by rw [List.length_set];omega)]
     exact oc
   have Mb:=(Ma.trans (((Ext.refl _).trans h5).mod _)).trans (u6.mod (S:=(fun b=>v.ownBlock=some b)) hob)
   refine ER.nil (fun w7 h7=>?_)
   refine AQ.blockNormal ?_;refine AQ.then ?_;refine EC.region (fun i=>[1,1,1,1,1,1].getD i 0) [0,1,2,3,4,5] rfl ?_
   refine ER.sil rfl rfl rfl rfl (Sil.move rfl) ?_;refine ER.sil rfl rfl rfl rfl (Sil.add rfl rfl) ?_;rw [wrap_succ (show q.i<l.length by omega) hm]
   refine ER.sil rfl rfl rfl rfl (Sil.move rfl) ?_;refine ER.sil rfl rfl rfl rfl (Sil.sub rfl rfl) ?_;rw [show IntKind.i64.wrap ((l.length:Int)-1-(q.i:Int)-1)=(l.length:Int)-1-((q.i+1:Nat):Int)from by rw [IntWalk.i64_in _ (by omega)];omega]
   refine ER.sil rfl rfl rfl rfl (Sil.assign rfl) ?_;refine ER.sil rfl rfl rfl rfl (Sil.assign rfl) ?_;refine ER.nil (fun w8 h8=>?_)
   refine AQ.round ⟨q.i+1,_⟩ [0,2,3] rfl ⟨Mb.trans ((h7.trans h8).mod _),hR.step rfl hij (List.getElem?_eq_getElem hjl) (List.getElem?_eq_getElem hil),by simp only;omega,od.ext (h7.trans h8)⟩ (by simp only;omega)
 ·
   refine EC.exit ?_;refine AQ.thenExit ?_;refine AQ.thenExit ?_;refine AQ.blockHit ?_;refine AQ.ret0 Tryz.results36 ?_;have hge:l.length≤2*q.i+1:=by have:=of_decide_eq_false hb0;omega
   rw [hml,hR.done hge]at hom;exact⟨rfl,hM.trans ((hE.trans h2).mod _),hom.ext (hE.trans h2)⟩
end Go.Proofs.YtobpljbkdffkbaaGreat
namespace Go.Proofs.YtobpljbkdffkbaaGreat
open Go.RowKit Go.XK Go.LocateLaw
set_option maxRecDepth 100000 in
theorem at_own (cs:List Value) (inf:Inf) (p:Int) (w:World) (hi:InfC w cs inf) (hm8:inf.inlines.length≤60) :
   Calls Tryz.prog 9 [.agg cs.toArray,.int .i64 p].toArray w fun e w'=>∃ iv,e=.returned (.tuple #[.agg (sotC (atS inf p) iv).toArray,.bool (atB inf p)])∧Ext w w'∧LR 6 ilC w' iv (atS inf p).inls∧∀ k,iv.ownBlock=some k→w.heap.size≤k:=by
 obtain⟨mv,hmv,hml⟩:=hi.2.1;obtain⟨lv,hlv,hll⟩:=hi.2.2.1;obtain⟨iv,hiv,hil⟩:=hi.2.2.2.2.1;have hsl:(inf.inlines.filter (ilP p)).length≤60:=Nat.le_trans (List.length_filter_le ..) hm8;refine calls_of Tryz.func9 rfl Tryz.ntmps9 rfl ?_;refine EC.seq ?_;refine EC.region (fun i=>[2,2,2,1].getD i 0) [0,1,2,3] rfl ?_
 refine ER.st rfl rfl rfl rfl (fun w1 h1=>Stp.box rfl (fun w2 h2 s2 r2=>⟨h2,?_⟩))
 refine ER.st rfl rfl rfl rfl (fun w3 h3=>Stp.box rfl (fun w4 h4 s4 r4=>⟨h4,?_⟩))
 refine ER.st rfl rfl rfl rfl (fun w5 h5=>Stp.alloc inf46 (fun w6 h6 s6 r6=>⟨h6,?_⟩))
 have hB4:=Nat.le_trans (((h1.trans h2).trans h3).trans h4).size h5.size;refine ER.sil rfl rfl rfl rfl (Sil.assign rfl) ?_;refine ER.nil (fun w7 h7=>?_)
 refine AQ.then ?_;refine EC.seq ?_;refine EC.region (fun i=>[0,0,0,1,1,1,2,3,1].getD i 0) [0,1,2,3,4,5,6,7,8] rfl ?_
 refine ER.ex rfl rfl rfl rfl (Exa.loadAgg (vs:=cs) (by rw [hi.len];exact agg39) rfl ((r2.ext ((((h3.trans h4).trans h5).trans h6).trans h7)).at)) ?_
 refine ER.ex rfl rfl rfl rfl (Exa.load flat3 rfl ((r4.ext ((h5.trans h6).trans h7)).cell rfl)) ?_;refine ER.ex rfl rfl rfl rfl (Exa.call fok26 rfl rfl (fun wx hx=>(node_any cs inf p wx (hi.ext (((((((h1.trans h2).trans h3).trans h4).trans h5).trans h6).trans h7).trans hx))))) ?_
 refine ER.sil rfl rfl rfl rfl (Sil.move rfl) ?_;refine ER.sil rfl rfl rfl rfl (Sil.extract rfl rfl) ?_;refine ER.sil rfl rfl rfl rfl (Sil.extract rfl rfl) ?_;refine ER.st rfl rfl rfl rfl (fun w8 h8=>Stp.alloc inf65 (fun w9 h9 s9 r9=>⟨h9,?_⟩))
 refine ER.bar rfl rfl rfl rfl (fun w10 h10=>Stp.store (by kernel_rfl) rfl rfl (r9.ext h10) rfl rfl (fun w11 u11 r11=>?_))
 have e11:=((h8.trans h9).trans h10).upd u11 h8.size;refine ER.sil rfl rfl rfl rfl (Sil.assign rfl) ?_;refine ER.nil (fun w12 h12=>?_)
 refine AQ.then ?_;refine EC.seq ?_;refine EC.seq ?_;refine EC.region (fun i=>[1,1].getD i 0) [0,1] rfl ?_
 refine ER.sil rfl rfl rfl rfl (Sil.move rfl) ?_;refine ER.sil rfl rfl rfl rfl (Sil.not rfl) ?_;refine ER.nil (fun w13 h13=>?_)
 refine AQ.then ?_;refine EC.cond rfl (fun hb0=>?_) (fun hb0=>?_)
 ·
   refine EC.seq ?_;refine EC.region (fun i=>[1,3,1].getD i 0) [0,1,2] rfl ?_
   refine ER.sil rfl rfl rfl rfl (Sil.build rfl rfl) ?_;refine ER.bar rfl rfl rfl rfl (fun w14 h14=>Stp.store (by kernel_rfl) rfl rfl (r6.ext ((((h7.trans e11).trans h12).trans h13).trans h14)) rfl rfl (fun w15 u15 r15=>?_))
   have e15:=((((((h5.trans h6).trans h7).trans e11).trans h12).trans h13).trans h14).upd u15 h5.size;refine ER.sil rfl rfl rfl rfl (Sil.assign rfl) ?_;refine ER.nil (fun w16 h16=>?_)
   refine AQ.then ?_;refine EC.ret ?_;refine AQ.thenRet ?_;refine AQ.retCT Tryz.results9 rfl rfl (LV.agg (r15.ext h16) agg46) ?_;have hnb:(nodeO inf p).isSome=false:=by simpa using hb0
   have hab:atB inf p=false:=hnb;rw [at_no hnb,hab];exact⟨_,rfl,(((((h1.trans h2).trans h3).trans h4).trans e15).trans h16),LR.nil _,fun k hk=>by cases hk⟩
 ·
   have hnb:(nodeO inf p).isSome=true:=by simpa using hb0
   refine EC.skip ?_;refine AQ.then ?_;refine EC.seq ?_;refine EC.region (fun i=>[1,2,3].getD i 0) [0,1,2] rfl ?_
   refine ER.sil rfl rfl rfl rfl (Sil.makeFunc rfl rfl) ?_;refine ER.st rfl rfl rfl rfl (fun w17 h17=>Stp.alloc inf68 (fun w18 h18 s18 r18=>⟨h18,?_⟩))
   refine ER.bar rfl rfl rfl rfl (fun w19 h19=>Stp.store (by kernel_rfl) rfl rfl (r18.ext h19) rfl rfl (fun w20 u20 r20=>?_))
   have e20:=((h17.trans h18).trans h19).upd u20 h17.size;refine ER.nil (fun w21 h21=>?_)
   refine AQ.then ?_;refine EC.seq ?_;refine EC.region (fun i=>[0,1,0,1,1,2,3].getD i 0) [0,1,2,3,4,5,6] rfl ?_
   refine ER.ex rfl rfl rfl rfl (Exa.load flat3 rfl ((r4.ext (((((((h5.trans h6).trans h7).trans e11).trans h12).trans h13).trans e20).trans h21)).cell rfl)) ?_;refine ER.sil rfl rfl rfl rfl (Sil.fieldAddr Tryz.underlying65 rfl inf3 rfl) ?_;refine ER.ex rfl rfl rfl rfl (Exa.load flat3 rfl ((r11.ext (((h12.trans h13).trans e20).trans h21)).cell rfl)) ?_;refine ER.sil rfl rfl rfl rfl (Sil.sub rfl rfl) ?_;refine ER.sil rfl rfl rfl rfl (Sil.build rfl rfl) ?_;have l2:=(r2.ext (((((((((h3.trans h4).trans h5).trans h6).trans h7).trans e11).trans h12).trans h13).trans e20).trans h21)).lt;have l3:=(r4.ext (((((((h5.trans h6).trans h7).trans e11).trans h12).trans h13).trans e20).trans h21)).lt;have l4:=(r6.ext (((((h7.trans e11).trans h12).trans h13).trans e20).trans h21)).lt;have l6:=(r11.ext (((h12.trans h13).trans e20).trans h21)).lt;have l8:=(r20.ext h21).lt;have hs9:=(((((((((((h1.trans h2).trans h3).trans h4).trans h5).trans h6).trans h7).trans e11).trans h12).trans h13).trans e20).trans h21).size;refine ER.st rfl rfl rfl rfl (fun w22 h22=>Stp.alloc inf46 (fun w23 h23 s23 r23=>⟨h23,?_⟩))
   have hm9:=h22.size;refine ER.bar rfl rfl rfl rfl (fun w24 h24=>Stp.store (by kernel_rfl) rfl rfl (r23.ext h24) rfl rfl (fun w25 u25 r25=>?_))
   have e25:=((h22.trans h23).trans h24).upd u25 h22.size;refine ER.nil (fun w26 h26=>?_)
   refine AQ.then ?_;refine EC.join (σ:=Unit) (fun q=>[(2,ptr w1.heap.size),(3,ptr w3.heap.size),(4,ptr w5.heap.size),(6,ptr w8.heap.size),(8,ptr w17.heap.size),(9,ptr w22.heap.size)]) (fun q wr=>Ext w wr∧Row wr w1.heap.size 39 cs∧Row wr w3.heap.size 3 [.int .i64 p]∧Row wr w5.heap.size 46 (sotC sot0 (.slice none 0 0))∧Row wr w8.heap.size 65 (spC (spZ (nodeO inf p)))∧Row wr w17.heap.size 68 [.func (.func 27) #[] #[ptr w8.heap.size,ptr w3.heap.size]]∧Row wr w22.heap.size 46 [.string (funcS (markS inf (spZ (nodeO inf p)) p)),.int .i64 (offS (spZ (nodeO inf p)) p (markS inf (spZ (nodeO inf p)) p)),.string ByteArray.empty,.int .i64 0,.slice none 0 0]) ?_ (fun q wr hF=>?_)
   ·
     refine EC.seq ?_;refine EC.region (fun i=>[1,1,0,1,2,0,1,1,1,2,3,1].getD i 0) [0,1,2,3,4,5,6,7,8,9,10,11] rfl ?_
     refine ER.sil rfl rfl rfl rfl (Sil.fieldAddr Tryz.underlying39 rfl inf36 rfl) ?_;refine ER.sil rfl rfl rfl rfl (Sil.fieldAddr Tryz.underlying36 rfl inf29 rfl) ?_;refine ER.ex rfl rfl rfl rfl (Exa.load flat29 rfl (((r2.ext (((((((((((h3.trans h4).trans h5).trans h6).trans h7).trans e11).trans h12).trans h13).trans e20).trans h21).trans e25).trans h26))).cell hmv)) ?_;refine ER.sil rfl rfl rfl rfl (Sil.makeFunc rfl rfl) ?_;have hes:=(((((((((((((h1.trans h2).trans h3).trans h4).trans h5).trans h6).trans h7).trans e11).trans h12).trans h13).trans e20).trans h21).trans e25).trans h26).size;refine ER.st rfl rfl rfl rfl (fun w27 h27=>Stp.call fok29 rfl rfl (Calls.mono ((some_mkC_any mv _ w27 hml.isS3 ⟨_,_,_,rfl⟩)) ?_))
     rintro _ w28 ⟨v28,rfl,h28,⟨c1,c2,hv28,hc128,hc228,hl1,hl2⟩⟩;refine⟨_,rfl,h28,?_⟩;subst hv28;have hes2:=h27.size;refine ER.ex rfl rfl rfl rfl (Exa.call fok28 rfl rfl (fun wx hx=>(last_mkC (inf.marks.filter (mkP (spZ (nodeO inf p)).at_ p)) _ [ptr c1,ptr c2] (fun b=>b<wx.heap.size∨b=c1∨b=c2) wx fok89 (fun b hb=>hb.elim id (fun h=>h.elim (fun e=>e▸(hc128.ext hx).lt) (fun e=>e▸(hc228.ext hx).lt))) (fun W hW=>some_mkC_seq inf.marks mv _ [ptr w17.heap.size] (mkP (spZ (nodeO inf p)).at_ p) wx c1 c2 W hW (hml.ext ((((((((((((((((h1.trans h2).trans h3).trans h4).trans h5).trans h6).trans h7).trans e11).trans h12).trans h13).trans e20).trans h21).trans e25).trans h26).trans h27).trans h28).trans hx)) fok30 (fun x wz hz=>at2_any x (spZ (nodeO inf p)) p w17.heap.size w8.heap.size w3.heap.size wz (((r20.ext ((((h21.trans e25).trans h26).trans h27).trans h28))).ext (hx.trans hz)) (((r11.ext (((((((h12.trans h13).trans e20).trans h21).trans e25).trans h26).trans h27).trans h28))).ext (hx.trans hz)) (((r4.ext (((((((((((h5.trans h6).trans h7).trans e11).trans h12).trans h13).trans e20).trans h21).trans e25).trans h26).trans h27).trans h28))).ext (hx.trans hz))) ((hc128.ext hx).ext hW) ((hc228.ext hx).ext hW))))) ?_
     refine ER.sil rfl rfl rfl rfl (Sil.move rfl) ?_;refine ER.sil rfl rfl rfl rfl (Sil.extract rfl rfl) ?_;refine ER.sil rfl rfl rfl rfl (Sil.extract rfl rfl) ?_;have l9:=(r25.ext ((h26.trans h27).trans h28)).lt;refine ER.st rfl rfl rfl rfl (fun w29 h29=>Stp.alloc inf53 (fun w30 h30 s30 r30=>⟨h30,?_⟩))
     have hm10:=h29.size;refine ER.bar rfl rfl rfl rfl (fun w31 h31=>Stp.store (by kernel_rfl) rfl rfl (r30.ext h31) rfl rfl (fun w32 u32 r32=>?_))
     have e32:=((h29.trans h30).trans h31).upd u32 h29.size;refine ER.sil rfl rfl rfl rfl (Sil.assign rfl) ?_;refine ER.nil (fun w33 h33=>?_)
     refine AQ.then ?_;refine EC.seq ?_;refine EC.region (fun i=>[1].getD i 0) [0] rfl ?_
     refine ER.sil rfl rfl rfl rfl (Sil.move rfl) ?_;refine ER.nil (fun w34 h34=>?_)
     refine AQ.then ?_;refine EC.cond rfl (fun hb1=>?_) (fun hb1=>?_)
     ·
       refine EC.drawA (fun i=>[1,0,0,1,0,1,1,3,1,3].getD i 0) (by kernel_rfl) 10 rfl ?_
       refine EA.take 0 (by kernel_rfl) ?_
       intro c35;refine EX.sil rfl rfl rfl rfl (Sil.fieldAddr Tryz.underlying53 rfl inf9 rfl) ?_;refine EA.back c35 ?_;refine EA.take 3 (by kernel_rfl) ?_
       intro c36;refine EX.sil rfl rfl rfl rfl (Sil.fieldAddr Tryz.underlying53 rfl inf3 rfl) ?_;refine EA.back c36 ?_;refine EA.take 1 (by kernel_rfl) ?_
       intro c37;refine EX.ex rfl rfl rfl rfl (Exa.load flat9 rfl ((r32.ext (h33.trans h34)).cell rfl)) ?_;refine EA.back c37 ?_;refine EA.take 6 (by kernel_rfl) ?_
       intro c38;refine EX.sil rfl rfl rfl rfl (Sil.fieldAddr Tryz.underlying46 rfl inf9 rfl) ?_;refine EA.back c38 ?_;refine EA.three 2 4 7 (by kernel_rfl) ?_ ?_ ?_
       ·
         intro c39;refine EX.ex rfl rfl rfl rfl (Exa.load flat3 rfl ((r4.ext ((((((((((((((h5.trans h6).trans h7).trans e11).trans h12).trans h13).trans e20).trans h21).trans e25).trans h26).trans h27).trans h28).trans e32).trans h33).trans h34)).cell rfl)) ?_;refine EA.back c39 ?_;refine EA.two 4 7 (by kernel_rfl) ?_ ?_
         ·
           intro c40;refine EX.ex rfl rfl rfl rfl (Exa.load flat3 rfl ((r32.ext (h33.trans h34)).cell rfl)) ?_;refine EA.back c40 ?_;refine EA.take 5 (by kernel_rfl) ?_
           intro c41;refine EX.sil rfl rfl rfl rfl (Sil.sub rfl rfl) ?_;refine EA.back c41 ?_;refine EA.only 7 (by kernel_rfl) ?_
           intro c42;refine EX.bar rfl rfl rfl rfl (fun w43 h43=>Stp.storeF (by kernel_rfl) rfl rfl (r25.ext ((((((h26.trans h27).trans h28).trans e32).trans h33).trans h34).trans h43)) (show 0+1≤5 from by decide) rfl (fun w44 u44 r44=>?_))
           have r44:=(show Row _ _ _ [_,_,_,_,_]from r44);have b44:=(((((((((((((((((((h1.trans h2).trans h3).trans h4).trans h5).trans h6).trans h7).trans e11).trans h12).trans h13).trans e20).trans h21).trans e25).trans h26).trans h27).trans h28).trans e32).trans h33).trans h34).trans h43).upd u44 (by omega)
           have x44_2:=u44.row (r2.ext (((((((((((((((((h3.trans h4).trans h5).trans h6).trans h7).trans e11).trans h12).trans h13).trans e20).trans h21).trans e25).trans h26).trans h27).trans h28).trans e32).trans h33).trans h34).trans h43)) (by omega)
           have x44_3:=u44.row (r4.ext (((((((((((((((h5.trans h6).trans h7).trans e11).trans h12).trans h13).trans e20).trans h21).trans e25).trans h26).trans h27).trans h28).trans e32).trans h33).trans h34).trans h43)) (by omega)
           have x44_4:=u44.row (r6.ext (((((((((((((h7.trans e11).trans h12).trans h13).trans e20).trans h21).trans e25).trans h26).trans h27).trans h28).trans e32).trans h33).trans h34).trans h43)) (by omega)
           have x44_6:=u44.row (r11.ext (((((((((((h12.trans h13).trans e20).trans h21).trans e25).trans h26).trans h27).trans h28).trans e32).trans h33).trans h34).trans h43)) (by omega)
           have x44_8:=u44.row (r20.ext ((((((((h21.trans e25).trans h26).trans h27).trans h28).trans e32).trans h33).trans h34).trans h43)) (by omega)
           have x44_10:=u44.row (r32.ext ((h33.trans h34).trans h43)) (by omega)
           refine EA.back c42 ?_;refine EA.take 8 (by kernel_rfl) ?_
           intro c45;refine EX.sil rfl rfl rfl rfl (Sil.fieldAddr Tryz.underlying46 rfl inf3 rfl) ?_;refine EA.back c45 ?_;refine EA.only 9 (by kernel_rfl) ?_
           intro c46;refine EX.bar rfl rfl rfl rfl (fun w47 h47=>Stp.storeF (by kernel_rfl) rfl rfl (r44.ext h47) (show 1+1≤5 from by decide) rfl (fun w48 u48 r48=>?_))
           have r48:=(show Row _ _ _ [_,_,_,_,_]from r48);have b48:=(b44.trans h47).upd u48 (by omega)
           have x48_2:=u48.row (x44_2.ext h47) (by omega)
           have x48_3:=u48.row (x44_3.ext h47) (by omega)
           have x48_4:=u48.row (x44_4.ext h47) (by omega)
           have x48_6:=u48.row (x44_6.ext h47) (by omega)
           have x48_8:=u48.row (x44_8.ext h47) (by omega)
           have x48_10:=u48.row (x44_10.ext h47) (by omega)
           refine EA.back c46 ?_;refine EA.nil (by kernel_rfl) (fun w49 h49=>?_)
           refine AQ.join () [2,3,4,6,8,9] rfl ⟨(b48.trans h49),(x48_2.ext h49),(x48_3.ext h49),(x48_4.ext h49),(x48_6.ext h49),(x48_8.ext h49),?_⟩;rw [show markS inf (spZ (nodeO inf p)) p=some (lastD mkZ (inf.marks.filter (mkP (spZ (nodeO inf p)).at_ p)))from last_some hb1];exact(r48.ext h49)
         ·
           intro c50;refine EX.bar rfl rfl rfl rfl (fun w51 h51=>Stp.storeF (by kernel_rfl) rfl rfl (r25.ext ((((((h26.trans h27).trans h28).trans e32).trans h33).trans h34).trans h51)) (show 0+1≤5 from by decide) rfl (fun w52 u52 r52=>?_))
           have r52:=(show Row _ _ _ [_,_,_,_,_]from r52);have b52:=(((((((((((((((((((h1.trans h2).trans h3).trans h4).trans h5).trans h6).trans h7).trans e11).trans h12).trans h13).trans e20).trans h21).trans e25).trans h26).trans h27).trans h28).trans e32).trans h33).trans h34).trans h51).upd u52 (by omega)
           have x52_2:=u52.row (r2.ext (((((((((((((((((h3.trans h4).trans h5).trans h6).trans h7).trans e11).trans h12).trans h13).trans e20).trans h21).trans e25).trans h26).trans h27).trans h28).trans e32).trans h33).trans h34).trans h51)) (by omega)
           have x52_3:=u52.row (r4.ext (((((((((((((((h5.trans h6).trans h7).trans e11).trans h12).trans h13).trans e20).trans h21).trans e25).trans h26).trans h27).trans h28).trans e32).trans h33).trans h34).trans h51)) (by omega)
           have x52_4:=u52.row (r6.ext (((((((((((((h7.trans e11).trans h12).trans h13).trans e20).trans h21).trans e25).trans h26).trans h27).trans h28).trans e32).trans h33).trans h34).trans h51)) (by omega)
           have x52_6:=u52.row (r11.ext (((((((((((h12.trans h13).trans e20).trans h21).trans e25).trans h26).trans h27).trans h28).trans e32).trans h33).trans h34).trans h51)) (by omega)
           have x52_8:=u52.row (r20.ext ((((((((h21.trans e25).trans h26).trans h27).trans h28).trans e32).trans h33).trans h34).trans h51)) (by omega)
           have x52_10:=u52.row (r32.ext ((h33.trans h34).trans h51)) (by omega)
           refine EA.back c50 ?_;refine EA.take 4 (by kernel_rfl) ?_
           intro c53;refine EX.ex rfl rfl rfl rfl (Exa.load flat3 rfl (x52_10.cell rfl)) ?_;refine EA.back c53 ?_;refine EA.take 5 (by kernel_rfl) ?_
           intro c54;refine EX.sil rfl rfl rfl rfl (Sil.sub rfl rfl) ?_;refine EA.back c54 ?_;refine EA.take 8 (by kernel_rfl) ?_
           intro c55;refine EX.sil rfl rfl rfl rfl (Sil.fieldAddr Tryz.underlying46 rfl inf3 rfl) ?_;refine EA.back c55 ?_;refine EA.only 9 (by kernel_rfl) ?_
           intro c56;refine EX.bar rfl rfl rfl rfl (fun w57 h57=>Stp.storeF (by kernel_rfl) rfl rfl (r52.ext h57) (show 1+1≤5 from by decide) rfl (fun w58 u58 r58=>?_))
           have r58:=(show Row _ _ _ [_,_,_,_,_]from r58);have b58:=(b52.trans h57).upd u58 (by omega)
           have x58_2:=u58.row (x52_2.ext h57) (by omega)
           have x58_3:=u58.row (x52_3.ext h57) (by omega)
           have x58_4:=u58.row (x52_4.ext h57) (by omega)
           have x58_6:=u58.row (x52_6.ext h57) (by omega)
           have x58_8:=u58.row (x52_8.ext h57) (by omega)
           have x58_10:=u58.row (x52_10.ext h57) (by omega)
           refine EA.back c56 ?_;refine EA.nil (by kernel_rfl) (fun w59 h59=>?_)
           refine AQ.join () [2,3,4,6,8,9] rfl ⟨(b58.trans h59),(x58_2.ext h59),(x58_3.ext h59),(x58_4.ext h59),(x58_6.ext h59),(x58_8.ext h59),?_⟩;rw [show markS inf (spZ (nodeO inf p)) p=some (lastD mkZ (inf.marks.filter (mkP (spZ (nodeO inf p)).at_ p)))from last_some hb1];exact(r58.ext h59)
       ·
         intro c60;refine EX.ex rfl rfl rfl rfl (Exa.load flat3 rfl ((r32.ext (h33.trans h34)).cell rfl)) ?_;refine EA.back c60 ?_;refine EA.two 2 7 (by kernel_rfl) ?_ ?_
         ·
           intro c61;refine EX.ex rfl rfl rfl rfl (Exa.load flat3 rfl ((r4.ext ((((((((((((((h5.trans h6).trans h7).trans e11).trans h12).trans h13).trans e20).trans h21).trans e25).trans h26).trans h27).trans h28).trans e32).trans h33).trans h34)).cell rfl)) ?_;refine EA.back c61 ?_;refine EA.take 5 (by kernel_rfl) ?_
           intro c62;refine EX.sil rfl rfl rfl rfl (Sil.sub rfl rfl) ?_;refine EA.back c62 ?_;refine EA.only 7 (by kernel_rfl) ?_
           intro c63;refine EX.bar rfl rfl rfl rfl (fun w64 h64=>Stp.storeF (by kernel_rfl) rfl rfl (r25.ext ((((((h26.trans h27).trans h28).trans e32).trans h33).trans h34).trans h64)) (show 0+1≤5 from by decide) rfl (fun w65 u65 r65=>?_))
           have r65:=(show Row _ _ _ [_,_,_,_,_]from r65);have b65:=(((((((((((((((((((h1.trans h2).trans h3).trans h4).trans h5).trans h6).trans h7).trans e11).trans h12).trans h13).trans e20).trans h21).trans e25).trans h26).trans h27).trans h28).trans e32).trans h33).trans h34).trans h64).upd u65 (by omega)
           have x65_2:=u65.row (r2.ext (((((((((((((((((h3.trans h4).trans h5).trans h6).trans h7).trans e11).trans h12).trans h13).trans e20).trans h21).trans e25).trans h26).trans h27).trans h28).trans e32).trans h33).trans h34).trans h64)) (by omega)
           have x65_3:=u65.row (r4.ext (((((((((((((((h5.trans h6).trans h7).trans e11).trans h12).trans h13).trans e20).trans h21).trans e25).trans h26).trans h27).trans h28).trans e32).trans h33).trans h34).trans h64)) (by omega)
           have x65_4:=u65.row (r6.ext (((((((((((((h7.trans e11).trans h12).trans h13).trans e20).trans h21).trans e25).trans h26).trans h27).trans h28).trans e32).trans h33).trans h34).trans h64)) (by omega)
           have x65_6:=u65.row (r11.ext (((((((((((h12.trans h13).trans e20).trans h21).trans e25).trans h26).trans h27).trans h28).trans e32).trans h33).trans h34).trans h64)) (by omega)
           have x65_8:=u65.row (r20.ext ((((((((h21.trans e25).trans h26).trans h27).trans h28).trans e32).trans h33).trans h34).trans h64)) (by omega)
           have x65_10:=u65.row (r32.ext ((h33.trans h34).trans h64)) (by omega)
           refine EA.back c63 ?_;refine EA.take 8 (by kernel_rfl) ?_
           intro c66;refine EX.sil rfl rfl rfl rfl (Sil.fieldAddr Tryz.underlying46 rfl inf3 rfl) ?_;refine EA.back c66 ?_;refine EA.only 9 (by kernel_rfl) ?_
           intro c67;refine EX.bar rfl rfl rfl rfl (fun w68 h68=>Stp.storeF (by kernel_rfl) rfl rfl (r65.ext h68) (show 1+1≤5 from by decide) rfl (fun w69 u69 r69=>?_))
           have r69:=(show Row _ _ _ [_,_,_,_,_]from r69);have b69:=(b65.trans h68).upd u69 (by omega)
           have x69_2:=u69.row (x65_2.ext h68) (by omega)
           have x69_3:=u69.row (x65_3.ext h68) (by omega)
           have x69_4:=u69.row (x65_4.ext h68) (by omega)
           have x69_6:=u69.row (x65_6.ext h68) (by omega)
           have x69_8:=u69.row (x65_8.ext h68) (by omega)
           have x69_10:=u69.row (x65_10.ext h68) (by omega)
           refine EA.back c67 ?_;refine EA.nil (by kernel_rfl) (fun w70 h70=>?_)
           refine AQ.join () [2,3,4,6,8,9] rfl ⟨(b69.trans h70),(x69_2.ext h70),(x69_3.ext h70),(x69_4.ext h70),(x69_6.ext h70),(x69_8.ext h70),?_⟩;rw [show markS inf (spZ (nodeO inf p)) p=some (lastD mkZ (inf.marks.filter (mkP (spZ (nodeO inf p)).at_ p)))from last_some hb1];exact(r69.ext h70)
         ·
           intro c71;refine EX.bar rfl rfl rfl rfl (fun w72 h72=>Stp.storeF (by kernel_rfl) rfl rfl (r25.ext ((((((h26.trans h27).trans h28).trans e32).trans h33).trans h34).trans h72)) (show 0+1≤5 from by decide) rfl (fun w73 u73 r73=>?_))
           have r73:=(show Row _ _ _ [_,_,_,_,_]from r73);have b73:=(((((((((((((((((((h1.trans h2).trans h3).trans h4).trans h5).trans h6).trans h7).trans e11).trans h12).trans h13).trans e20).trans h21).trans e25).trans h26).trans h27).trans h28).trans e32).trans h33).trans h34).trans h72).upd u73 (by omega)
           have x73_2:=u73.row (r2.ext (((((((((((((((((h3.trans h4).trans h5).trans h6).trans h7).trans e11).trans h12).trans h13).trans e20).trans h21).trans e25).trans h26).trans h27).trans h28).trans e32).trans h33).trans h34).trans h72)) (by omega)
           have x73_3:=u73.row (r4.ext (((((((((((((((h5.trans h6).trans h7).trans e11).trans h12).trans h13).trans e20).trans h21).trans e25).trans h26).trans h27).trans h28).trans e32).trans h33).trans h34).trans h72)) (by omega)
           have x73_4:=u73.row (r6.ext (((((((((((((h7.trans e11).trans h12).trans h13).trans e20).trans h21).trans e25).trans h26).trans h27).trans h28).trans e32).trans h33).trans h34).trans h72)) (by omega)
           have x73_6:=u73.row (r11.ext (((((((((((h12.trans h13).trans e20).trans h21).trans e25).trans h26).trans h27).trans h28).trans e32).trans h33).trans h34).trans h72)) (by omega)
           have x73_8:=u73.row (r20.ext ((((((((h21.trans e25).trans h26).trans h27).trans h28).trans e32).trans h33).trans h34).trans h72)) (by omega)
           have x73_10:=u73.row (r32.ext ((h33.trans h34).trans h72)) (by omega)
           refine EA.back c71 ?_;refine EA.take 2 (by kernel_rfl) ?_
           intro c74;refine EX.ex rfl rfl rfl rfl (Exa.load flat3 rfl (x73_3.cell rfl)) ?_;refine EA.back c74 ?_;refine EA.take 5 (by kernel_rfl) ?_
           intro c75;refine EX.sil rfl rfl rfl rfl (Sil.sub rfl rfl) ?_;refine EA.back c75 ?_;refine EA.take 8 (by kernel_rfl) ?_
           intro c76;refine EX.sil rfl rfl rfl rfl (Sil.fieldAddr Tryz.underlying46 rfl inf3 rfl) ?_;refine EA.back c76 ?_;refine EA.only 9 (by kernel_rfl) ?_
           intro c77;refine EX.bar rfl rfl rfl rfl (fun w78 h78=>Stp.storeF (by kernel_rfl) rfl rfl (r73.ext h78) (show 1+1≤5 from by decide) rfl (fun w79 u79 r79=>?_))
           have r79:=(show Row _ _ _ [_,_,_,_,_]from r79);have b79:=(b73.trans h78).upd u79 (by omega)
           have x79_2:=u79.row (x73_2.ext h78) (by omega)
           have x79_3:=u79.row (x73_3.ext h78) (by omega)
           have x79_4:=u79.row (x73_4.ext h78) (by omega)
           have x79_6:=u79.row (x73_6.ext h78) (by omega)
           have x79_8:=u79.row (x73_8.ext h78) (by omega)
           have x79_10:=u79.row (x73_10.ext h78) (by omega)
           refine EA.back c77 ?_;refine EA.nil (by kernel_rfl) (fun w80 h80=>?_)
           refine AQ.join () [2,3,4,6,8,9] rfl ⟨(b79.trans h80),(x79_2.ext h80),(x79_3.ext h80),(x79_4.ext h80),(x79_6.ext h80),(x79_8.ext h80),?_⟩;rw [show markS inf (spZ (nodeO inf p)) p=some (lastD mkZ (inf.marks.filter (mkP (spZ (nodeO inf p)).at_ p)))from last_some hb1];exact(r79.ext h80)
       ·
         intro c81;refine EX.bar rfl rfl rfl rfl (fun w82 h82=>Stp.storeF (by kernel_rfl) rfl rfl (r25.ext ((((((h26.trans h27).trans h28).trans e32).trans h33).trans h34).trans h82)) (show 0+1≤5 from by decide) rfl (fun w83 u83 r83=>?_))
         have r83:=(show Row _ _ _ [_,_,_,_,_]from r83);have b83:=(((((((((((((((((((h1.trans h2).trans h3).trans h4).trans h5).trans h6).trans h7).trans e11).trans h12).trans h13).trans e20).trans h21).trans e25).trans h26).trans h27).trans h28).trans e32).trans h33).trans h34).trans h82).upd u83 (by omega)
         have x83_2:=u83.row (r2.ext (((((((((((((((((h3.trans h4).trans h5).trans h6).trans h7).trans e11).trans h12).trans h13).trans e20).trans h21).trans e25).trans h26).trans h27).trans h28).trans e32).trans h33).trans h34).trans h82)) (by omega)
         have x83_3:=u83.row (r4.ext (((((((((((((((h5.trans h6).trans h7).trans e11).trans h12).trans h13).trans e20).trans h21).trans e25).trans h26).trans h27).trans h28).trans e32).trans h33).trans h34).trans h82)) (by omega)
         have x83_4:=u83.row (r6.ext (((((((((((((h7.trans e11).trans h12).trans h13).trans e20).trans h21).trans e25).trans h26).trans h27).trans h28).trans e32).trans h33).trans h34).trans h82)) (by omega)
         have x83_6:=u83.row (r11.ext (((((((((((h12.trans h13).trans e20).trans h21).trans e25).trans h26).trans h27).trans h28).trans e32).trans h33).trans h34).trans h82)) (by omega)
         have x83_8:=u83.row (r20.ext ((((((((h21.trans e25).trans h26).trans h27).trans h28).trans e32).trans h33).trans h34).trans h82)) (by omega)
         have x83_10:=u83.row (r32.ext ((h33.trans h34).trans h82)) (by omega)
         refine EA.back c81 ?_;refine EA.take 2 (by kernel_rfl) ?_
         intro c84;refine EX.ex rfl rfl rfl rfl (Exa.load flat3 rfl (x83_3.cell rfl)) ?_;refine EA.back c84 ?_;refine EA.take 4 (by kernel_rfl) ?_
         intro c85;refine EX.ex rfl rfl rfl rfl (Exa.load flat3 rfl (x83_10.cell rfl)) ?_;refine EA.back c85 ?_;refine EA.take 5 (by kernel_rfl) ?_
         intro c86;refine EX.sil rfl rfl rfl rfl (Sil.sub rfl rfl) ?_;refine EA.back c86 ?_;refine EA.take 8 (by kernel_rfl) ?_
         intro c87;refine EX.sil rfl rfl rfl rfl (Sil.fieldAddr Tryz.underlying46 rfl inf3 rfl) ?_;refine EA.back c87 ?_;refine EA.only 9 (by kernel_rfl) ?_
         intro c88;refine EX.bar rfl rfl rfl rfl (fun w89 h89=>Stp.storeF (by kernel_rfl) rfl rfl (r83.ext h89) (show 1+1≤5 from by decide) rfl (fun w90 u90 r90=>?_))
         have r90:=(show Row _ _ _ [_,_,_,_,_]from r90);have b90:=(b83.trans h89).upd u90 (by omega)
         have x90_2:=u90.row (x83_2.ext h89) (by omega)
         have x90_3:=u90.row (x83_3.ext h89) (by omega)
         have x90_4:=u90.row (x83_4.ext h89) (by omega)
         have x90_6:=u90.row (x83_6.ext h89) (by omega)
         have x90_8:=u90.row (x83_8.ext h89) (by omega)
         have x90_10:=u90.row (x83_10.ext h89) (by omega)
         refine EA.back c88 ?_;refine EA.nil (by kernel_rfl) (fun w91 h91=>?_)
         refine AQ.join () [2,3,4,6,8,9] rfl ⟨(b90.trans h91),(x90_2.ext h91),(x90_3.ext h91),(x90_4.ext h91),(x90_6.ext h91),(x90_8.ext h91),?_⟩;rw [show markS inf (spZ (nodeO inf p)) p=some (lastD mkZ (inf.marks.filter (mkP (spZ (nodeO inf p)).at_ p)))from last_some hb1];exact(r90.ext h91)
     ·
       refine EC.skip ?_;refine AQ.join () [2,3,4,6,8,9] rfl ⟨((((((((((((((((((h1.trans h2).trans h3).trans h4).trans h5).trans h6).trans h7).trans e11).trans h12).trans h13).trans e20).trans h21).trans e25).trans h26).trans h27).trans h28).trans e32).trans h33).trans h34),(r2.ext ((((((((((((((((h3.trans h4).trans h5).trans h6).trans h7).trans e11).trans h12).trans h13).trans e20).trans h21).trans e25).trans h26).trans h27).trans h28).trans e32).trans h33).trans h34)),(r4.ext ((((((((((((((h5.trans h6).trans h7).trans e11).trans h12).trans h13).trans e20).trans h21).trans e25).trans h26).trans h27).trans h28).trans e32).trans h33).trans h34)),(r6.ext ((((((((((((h7.trans e11).trans h12).trans h13).trans e20).trans h21).trans e25).trans h26).trans h27).trans h28).trans e32).trans h33).trans h34)),(r11.ext ((((((((((h12.trans h13).trans e20).trans h21).trans e25).trans h26).trans h27).trans h28).trans e32).trans h33).trans h34)),(r20.ext (((((((h21.trans e25).trans h26).trans h27).trans h28).trans e32).trans h33).trans h34)),?_⟩;rw [show markS inf (spZ (nodeO inf p)) p=none from last_none hb1];exact(r25.ext (((((h26.trans h27).trans h28).trans e32).trans h33).trans h34))
   obtain⟨hE,q2,q3,q4,q6,q8,q9⟩:=hF;refine EC.join (σ:=Unit) (fun q=>[(2,ptr w1.heap.size),(3,ptr w3.heap.size),(4,ptr w5.heap.size),(6,ptr w8.heap.size),(8,ptr w17.heap.size),(9,ptr w22.heap.size)]) (fun q wr=>Ext w wr∧Row wr w1.heap.size 39 cs∧Row wr w3.heap.size 3 [.int .i64 p]∧Row wr w5.heap.size 46 (sotC sot0 (.slice none 0 0))∧Row wr w8.heap.size 65 (spC (spZ (nodeO inf p)))∧Row wr w17.heap.size 68 [.func (.func 27) #[] #[ptr w8.heap.size,ptr w3.heap.size]]∧Row wr w22.heap.size 46 [.string (funcS (markS inf (spZ (nodeO inf p)) p)),.int .i64 (offS (spZ (nodeO inf p)) p (markS inf (spZ (nodeO inf p)) p)),.string (fileS (lineS inf (spZ (nodeO inf p)) p)),.int .i64 (linS (lineS inf (spZ (nodeO inf p)) p)),.slice none 0 0]) ?_ (fun q wr hF=>?_)
   ·
     refine EC.seq ?_;refine EC.region (fun i=>[1,1,0,1,2,0,1,1,1,2,3,1].getD i 0) [0,1,2,3,4,5,6,7,8,9,10,11] rfl ?_
     refine ER.sil rfl rfl rfl rfl (Sil.fieldAddr Tryz.underlying39 rfl inf36 rfl) ?_;refine ER.sil rfl rfl rfl rfl (Sil.fieldAddr Tryz.underlying36 rfl inf30 rfl) ?_;refine ER.ex rfl rfl rfl rfl (Exa.load flat30 rfl ((q2).cell hlv)) ?_;refine ER.sil rfl rfl rfl rfl (Sil.makeFunc rfl rfl) ?_;have hes:=hE.size;refine ER.st rfl rfl rfl rfl (fun w92 h92=>Stp.call fok22 rfl rfl (Calls.mono ((some_lnC_any lv _ w92 hll.isS3 ⟨_,_,_,rfl⟩)) ?_))
     rintro _ w93 ⟨v93,rfl,h93,⟨c1,c2,hv93,hc193,hc293,hl1,hl2⟩⟩;refine⟨_,rfl,h93,?_⟩;subst hv93;have hes2:=h92.size;refine ER.ex rfl rfl rfl rfl (Exa.call fok31 rfl rfl (fun wx hx=>(last_lnC (inf.lines.filter (lnP (spZ (nodeO inf p)).at_ p)) _ [ptr c1,ptr c2] (fun b=>b<wx.heap.size∨b=c1∨b=c2) wx fok84 (fun b hb=>hb.elim id (fun h=>h.elim (fun e=>e▸(hc193.ext hx).lt) (fun e=>e▸(hc293.ext hx).lt))) (fun W hW=>some_lnC_seq inf.lines lv _ [ptr w17.heap.size] (lnP (spZ (nodeO inf p)).at_ p) wx c1 c2 W hW (hll.ext (((hE.trans h92).trans h93).trans hx)) fok32 (fun x wz hz=>at3_any x (spZ (nodeO inf p)) p w17.heap.size w8.heap.size w3.heap.size wz (((q8.ext (h92.trans h93))).ext (hx.trans hz)) (((q6.ext (h92.trans h93))).ext (hx.trans hz)) (((q3.ext (h92.trans h93))).ext (hx.trans hz))) ((hc193.ext hx).ext hW) ((hc293.ext hx).ext hW))))) ?_
     refine ER.sil rfl rfl rfl rfl (Sil.move rfl) ?_;refine ER.sil rfl rfl rfl rfl (Sil.extract rfl rfl) ?_;refine ER.sil rfl rfl rfl rfl (Sil.extract rfl rfl) ?_;have l9:=(q9.ext (h92.trans h93)).lt;refine ER.st rfl rfl rfl rfl (fun w94 h94=>Stp.alloc inf43 (fun w95 h95 s95 r95=>⟨h95,?_⟩))
     have hm12:=h94.size;refine ER.bar rfl rfl rfl rfl (fun w96 h96=>Stp.store (by kernel_rfl) rfl rfl (r95.ext h96) rfl rfl (fun w97 u97 r97=>?_))
     have e97:=((h94.trans h95).trans h96).upd u97 h94.size;refine ER.sil rfl rfl rfl rfl (Sil.assign rfl) ?_;refine ER.nil (fun w98 h98=>?_)
     refine AQ.then ?_;refine EC.seq ?_;refine EC.region (fun i=>[1].getD i 0) [0] rfl ?_
     refine ER.sil rfl rfl rfl rfl (Sil.move rfl) ?_;refine ER.nil (fun w99 h99=>?_)
     refine AQ.then ?_;refine EC.cond rfl (fun hb2=>?_) (fun hb2=>?_)
     ·
       refine EC.drawA (fun i=>[1,0,1,0,1,3,1,3].getD i 0) (by kernel_rfl) 8 rfl ?_
       refine EA.take 0 (by kernel_rfl) ?_
       intro c100;refine EX.sil rfl rfl rfl rfl (Sil.fieldAddr Tryz.underlying43 rfl inf9 rfl) ?_;refine EA.back c100 ?_;refine EA.take 2 (by kernel_rfl) ?_
       intro c101;refine EX.sil rfl rfl rfl rfl (Sil.fieldAddr Tryz.underlying43 rfl inf3 rfl) ?_;refine EA.back c101 ?_;refine EA.take 1 (by kernel_rfl) ?_
       intro c102;refine EX.ex rfl rfl rfl rfl (Exa.load flat9 rfl ((r97.ext (h98.trans h99)).cell rfl)) ?_;refine EA.back c102 ?_;refine EA.take 4 (by kernel_rfl) ?_
       intro c103;refine EX.sil rfl rfl rfl rfl (Sil.fieldAddr Tryz.underlying46 rfl inf9 rfl) ?_;refine EA.back c103 ?_;refine EA.two 3 5 (by kernel_rfl) ?_ ?_
       ·
         intro c104;refine EX.ex rfl rfl rfl rfl (Exa.load flat3 rfl ((r97.ext (h98.trans h99)).cell rfl)) ?_;refine EA.back c104 ?_;refine EA.only 5 (by kernel_rfl) ?_
         intro c105;refine EX.bar rfl rfl rfl rfl (fun w106 h106=>Stp.storeF (by kernel_rfl) rfl rfl (q9.ext (((((h92.trans h93).trans e97).trans h98).trans h99).trans h106)) (show 2+1≤5 from by decide) rfl (fun w107 u107 r107=>?_))
         have r107:=(show Row _ _ _ [_,_,_,_,_]from r107);have b107:=((((((hE.trans h92).trans h93).trans e97).trans h98).trans h99).trans h106).upd u107 (by omega)
         have x107_2:=u107.row (q2.ext (((((h92.trans h93).trans e97).trans h98).trans h99).trans h106)) (by omega)
         have x107_3:=u107.row (q3.ext (((((h92.trans h93).trans e97).trans h98).trans h99).trans h106)) (by omega)
         have x107_4:=u107.row (q4.ext (((((h92.trans h93).trans e97).trans h98).trans h99).trans h106)) (by omega)
         have x107_6:=u107.row (q6.ext (((((h92.trans h93).trans e97).trans h98).trans h99).trans h106)) (by omega)
         have x107_8:=u107.row (q8.ext (((((h92.trans h93).trans e97).trans h98).trans h99).trans h106)) (by omega)
         have x107_12:=u107.row (r97.ext ((h98.trans h99).trans h106)) (by omega)
         refine EA.back c105 ?_;refine EA.take 6 (by kernel_rfl) ?_
         intro c108;refine EX.sil rfl rfl rfl rfl (Sil.fieldAddr Tryz.underlying46 rfl inf3 rfl) ?_;refine EA.back c108 ?_;refine EA.only 7 (by kernel_rfl) ?_
         intro c109;refine EX.bar rfl rfl rfl rfl (fun w110 h110=>Stp.storeF (by kernel_rfl) rfl rfl (r107.ext h110) (show 3+1≤5 from by decide) rfl (fun w111 u111 r111=>?_))
         have r111:=(show Row _ _ _ [_,_,_,_,_]from r111);have b111:=(b107.trans h110).upd u111 (by omega)
         have x111_2:=u111.row (x107_2.ext h110) (by omega)
         have x111_3:=u111.row (x107_3.ext h110) (by omega)
         have x111_4:=u111.row (x107_4.ext h110) (by omega)
         have x111_6:=u111.row (x107_6.ext h110) (by omega)
         have x111_8:=u111.row (x107_8.ext h110) (by omega)
         have x111_12:=u111.row (x107_12.ext h110) (by omega)
         refine EA.back c109 ?_;refine EA.nil (by kernel_rfl) (fun w112 h112=>?_)
         refine AQ.join () [2,3,4,6,8,9] rfl ⟨(b111.trans h112),(x111_2.ext h112),(x111_3.ext h112),(x111_4.ext h112),(x111_6.ext h112),(x111_8.ext h112),?_⟩;rw [show lineS inf (spZ (nodeO inf p)) p=some (lastD lnZ (inf.lines.filter (lnP (spZ (nodeO inf p)).at_ p)))from last_some hb2];exact(r111.ext h112)
       ·
         intro c113;refine EX.bar rfl rfl rfl rfl (fun w114 h114=>Stp.storeF (by kernel_rfl) rfl rfl (q9.ext (((((h92.trans h93).trans e97).trans h98).trans h99).trans h114)) (show 2+1≤5 from by decide) rfl (fun w115 u115 r115=>?_))
         have r115:=(show Row _ _ _ [_,_,_,_,_]from r115);have b115:=((((((hE.trans h92).trans h93).trans e97).trans h98).trans h99).trans h114).upd u115 (by omega)
         have x115_2:=u115.row (q2.ext (((((h92.trans h93).trans e97).trans h98).trans h99).trans h114)) (by omega)
         have x115_3:=u115.row (q3.ext (((((h92.trans h93).trans e97).trans h98).trans h99).trans h114)) (by omega)
         have x115_4:=u115.row (q4.ext (((((h92.trans h93).trans e97).trans h98).trans h99).trans h114)) (by omega)
         have x115_6:=u115.row (q6.ext (((((h92.trans h93).trans e97).trans h98).trans h99).trans h114)) (by omega)
         have x115_8:=u115.row (q8.ext (((((h92.trans h93).trans e97).trans h98).trans h99).trans h114)) (by omega)
         have x115_12:=u115.row (r97.ext ((h98.trans h99).trans h114)) (by omega)
         refine EA.back c113 ?_;refine EA.take 3 (by kernel_rfl) ?_
         intro c116;refine EX.ex rfl rfl rfl rfl (Exa.load flat3 rfl (x115_12.cell rfl)) ?_;refine EA.back c116 ?_;refine EA.take 6 (by kernel_rfl) ?_
         intro c117;refine EX.sil rfl rfl rfl rfl (Sil.fieldAddr Tryz.underlying46 rfl inf3 rfl) ?_;refine EA.back c117 ?_;refine EA.only 7 (by kernel_rfl) ?_
         intro c118;refine EX.bar rfl rfl rfl rfl (fun w119 h119=>Stp.storeF (by kernel_rfl) rfl rfl (r115.ext h119) (show 3+1≤5 from by decide) rfl (fun w120 u120 r120=>?_))
         have r120:=(show Row _ _ _ [_,_,_,_,_]from r120);have b120:=(b115.trans h119).upd u120 (by omega)
         have x120_2:=u120.row (x115_2.ext h119) (by omega)
         have x120_3:=u120.row (x115_3.ext h119) (by omega)
         have x120_4:=u120.row (x115_4.ext h119) (by omega)
         have x120_6:=u120.row (x115_6.ext h119) (by omega)
         have x120_8:=u120.row (x115_8.ext h119) (by omega)
         have x120_12:=u120.row (x115_12.ext h119) (by omega)
         refine EA.back c118 ?_;refine EA.nil (by kernel_rfl) (fun w121 h121=>?_)
         refine AQ.join () [2,3,4,6,8,9] rfl ⟨(b120.trans h121),(x120_2.ext h121),(x120_3.ext h121),(x120_4.ext h121),(x120_6.ext h121),(x120_8.ext h121),?_⟩;rw [show lineS inf (spZ (nodeO inf p)) p=some (lastD lnZ (inf.lines.filter (lnP (spZ (nodeO inf p)).at_ p)))from last_some hb2];exact(r120.ext h121)
     ·
       refine EC.skip ?_;refine AQ.join () [2,3,4,6,8,9] rfl ⟨(((((hE.trans h92).trans h93).trans e97).trans h98).trans h99),(q2.ext ((((h92.trans h93).trans e97).trans h98).trans h99)),(q3.ext ((((h92.trans h93).trans e97).trans h98).trans h99)),(q4.ext ((((h92.trans h93).trans e97).trans h98).trans h99)),(q6.ext ((((h92.trans h93).trans e97).trans h98).trans h99)),(q8.ext ((((h92.trans h93).trans e97).trans h98).trans h99)),?_⟩;rw [show lineS inf (spZ (nodeO inf p)) p=none from last_none hb2];exact(q9.ext ((((h92.trans h93).trans e97).trans h98).trans h99))
   obtain⟨hE,q2,q3,q4,q6,q8,q9⟩:=hF;refine EC.seq ?_;refine EC.region (fun i=>[1,1,0,1,2,2,1,3].getD i 0) [0,1,2,3,4,5,6,7] rfl ?_
   refine ER.sil rfl rfl rfl rfl (Sil.fieldAddr Tryz.underlying39 rfl inf36 rfl) ?_;refine ER.sil rfl rfl rfl rfl (Sil.fieldAddr Tryz.underlying36 rfl inf32 rfl) ?_;refine ER.ex rfl rfl rfl rfl (Exa.load flat32 rfl ((q2).cell hiv)) ?_;refine ER.sil rfl rfl rfl rfl (Sil.makeFunc rfl rfl) ?_;have hes:=hE.size;refine ER.st rfl rfl rfl rfl (fun w122 h122=>Stp.call fok34 rfl rfl (Calls.mono ((some_ilC_any iv _ w122 hil.isS3 ⟨_,_,_,rfl⟩)) ?_))
   rintro _ w123 ⟨v123,rfl,h123,⟨c1,c2,hv123,hc1123,hc2123,hl1,hl2⟩⟩;refine⟨_,rfl,h123,?_⟩;subst hv123;have hes2:=h122.size;have l9:=(q9.ext (h122.trans h123)).lt;have l4b:=(q4.ext (h122.trans h123)).lt;refine ER.st rfl rfl rfl rfl (fun w124 h124=>Stp.call fok33 rfl rfl (Calls.mono ((collect_ilC (inf.inlines.filter (ilP p)) _ [ptr c1,ptr c2] (fun b=>b<w124.heap.size∨b=c1∨b=c2) w124 fok91 (fun b hb=>hb.elim id (fun h=>h.elim (fun e=>e▸(hc1123.ext h124).lt) (fun e=>e▸(hc2123.ext h124).lt))) (fun W hW=>some_ilC_seq inf.inlines iv _ [ptr w3.heap.size] (ilP p) w124 c1 c2 W hW (hil.ext (((hE.trans h122).trans h123).trans h124)) fok35 (fun x wz hz=>at4_any x p w3.heap.size wz (((q3.ext (h122.trans h123))).ext (h124.trans hz))) ((hc1123.ext h124).ext hW) ((hc2123.ext h124).ext hW)) hsl)) ?_))
   rintro _ w125 ⟨v125,rfl,h125,hs125⟩;refine⟨_,rfl,h125,?_⟩;have hes3:=h124.size;obtain⟨va,vc,rfl,_⟩:=(LR.of_q ilL hs125).isS;refine ER.sil rfl rfl rfl rfl (Sil.fieldAddr Tryz.underlying46 rfl inf32 rfl) ?_;refine ER.bar rfl rfl rfl rfl (fun w126 h126=>Stp.storeF (by kernel_rfl) rfl rfl (q9.ext ((((h122.trans h123).trans h124).trans h125).trans h126)) (show 4+1≤5 from by decide) rfl (fun w127 u127 r127=>?_))
   have r127:=(show Row _ _ _ [_,_,_,_,_]from r127);have b127:=(((((hE.trans h122).trans h123).trans h124).trans h125).trans h126).upd u127 (by omega)
   have x127_4:=u127.row (q4.ext ((((h122.trans h123).trans h124).trans h125).trans h126)) (by omega)
   have y127_hs:=OwnQ.upd u127 (hs125.ext h126) (fun k hk=>by have:=((hs125.ext h126).lt k hk).1;omega)
   refine ER.nil (fun w128 h128=>?_)
   refine AQ.then ?_;refine EC.seq ?_;refine EC.region (fun i=>[1,0,3].getD i 0) [0,1,2] rfl ?_
   refine ER.sil rfl rfl rfl rfl (Sil.fieldAddr Tryz.underlying46 rfl inf32 rfl) ?_;refine ER.ex rfl rfl rfl rfl (Exa.load flat32 rfl ((r127.ext h128).cell rfl)) ?_;refine ER.bar rfl rfl rfl rfl (fun w129 h129=>Stp.call fok36 rfl rfl (Calls.mono (reverse_any _ _ _ w129 ((y127_hs.ext h128).ext h129) hsl) ?_))
   rintro _ w130 ⟨rfl,M130,o130⟩;refine⟨_,rfl,?_⟩;have hlow:=fun k hk=>(((y127_hs.ext h128).ext h129).lt k hk).1
   have b130:=(((b127.trans h128).trans h129)).modify M130 (fun k hk=>by have:=hlow k hk;omega)
   have x130_4:=M130.row ((x127_4.ext h128).ext h129) (fun hk=>by have:=hlow _ hk;omega)
   have x130_9:=M130.row ((r127.ext h128).ext h129) (fun hk=>by have:=hlow _ hk;omega)
   refine ER.nil (fun w131 h131=>?_)
   refine AQ.then ?_;refine EC.seq ?_;refine EC.region (fun i=>[0,3,1].getD i 0) [0,1,2] rfl ?_
   refine ER.ex rfl rfl rfl rfl (Exa.loadAgg (by exact agg46) rfl ((x130_9.ext h131).at)) ?_
   refine ER.bar rfl rfl rfl rfl (fun w132 h132=>Stp.store (by kernel_rfl) rfl rfl (x130_4.ext (h131.trans h132)) rfl rfl (fun w133 u133 r133=>?_))
   have b133:=((b130.trans h131).trans h132).upd u133 hB4;have y133_hr:=OwnQ.upd u133 (o130.ext (h131.trans h132)) (fun k hk=>by have:=((o130.ext (h131.trans h132)).lt k hk).1;omega)
   refine ER.sil rfl rfl rfl rfl (Sil.assign rfl) ?_;refine ER.nil (fun w134 h134=>?_)
   refine AQ.then ?_;refine EC.ret ?_;refine AQ.retCT Tryz.results9 rfl rfl (LV.agg (r133.ext h134) agg46) ?_;have hat:atS inf p=⟨funcS (markS inf (spZ (nodeO inf p)) p),offS (spZ (nodeO inf p)) p (markS inf (spZ (nodeO inf p)) p),fileS (lineS inf (spZ (nodeO inf p)) p),linS (lineS inf (spZ (nodeO inf p)) p),(inf.inlines.filter (ilP p)).reverse⟩:=at_eq hnb;have hab:atB inf p=true:=hnb;rw [hat,hab]
   exact⟨_,rfl,(b133.trans h134),LR.of_q ilL (by rw [List.length_reverse];exact(y133_hr.ext h134)),fun k hk=>by
     have:=(y133_hr.lt k hk).1;have:=hE.size;have:=h122.size;have:=h123.size;have:=h124.size
     omega⟩
end Go.Proofs.YtobpljbkdffkbaaGreat
