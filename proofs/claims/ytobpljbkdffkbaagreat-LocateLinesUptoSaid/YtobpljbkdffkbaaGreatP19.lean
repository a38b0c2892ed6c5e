/- A part of the proof (texts W10, Plain). -/
import Derived.Test.YtobpljbkdffkbaaGreatP14
import Derived.Test.YtobpljbkdffkbaaGreatP18
set_option linter.all false
set_option maxRecDepth 100000
namespace Go.Proofs.YtobpljbkdffkbaaGreat
open Go.RowKit Go.XK Go.LocateLaw
theorem ownq_ne {w:World} {base:Nat} {e:TypeId} {size n:Nat} {v:Value} {xs:List Value} {D:Nat} {x:Option (List Deferred)} (h:OwnQ w base e size v n xs) (hd:w.heap[D]?=some (.deferred x)) {k:Nat} (hk:v.ownBlock=some k):k≠D:=by
 rcases h.2 with ⟨rfl,_⟩|⟨g,o,cap,cur,rfl,_,hh,_⟩
 ·cases hk
 ·have hk:g=k:=by simpa [Value.ownBlock] using hk
  subst hk;intro he;subst he;obtain⟨_,hh,_⟩:=hh.ex;rw [hh]at hd;cases hd
theorem ints_q {w:World} {base:Nat} {e:TypeId} {v:Value} {l:List Int} (h:OwnQ w base e 1 v l.length (l.map (Value.int .i64))):LR 1 (fun k:Int=>[.int .i64 k]) w v l:=ListR.of_lits (enc:=Value.int .i64) h.reads
set_option maxRecDepth 100000 in
theorem of_own (cs:List Value) (inf:Inf) (f:ByteArray) (n:Int) (w:World) (hi:InfC w cs inf) (hm8:inf.lines.length≤60) :
   Calls Tryz.prog 8 [.agg cs.toArray,.string f,.int .i64 n].toArray w fun e w'=>∃ v',e=.returned v'∧Ext w w'∧LR 1 (fun k:Int=>[.int .i64 k]) w' v' (Lib.compact ((addrS inf f n).mergeSort fun x y=>decide (x≤y)))∧∀ k,v'.ownBlock=some k→w.heap.size≤k:=by
 obtain⟨lv,hlv,hll⟩:=hi.2.2.1;have hsl:(inf.lines.filter (lnOf f n)).length≤60:=Nat.le_trans (List.length_filter_le ..) hm8;have hal:(addrS inf f n).length=(inf.lines.filter (lnOf f n)).length:=List.length_map _;refine calls_ofM Tryz.func8 rfl Tryz.ntmps8 rfl ?_;refine EC.seq ?_;refine EC.region (fun i=>[2,2,2,1].getD i 0) [0,1,2,3] rfl ?_
 refine ER.st rfl rfl rfl rfl (fun w1 h1=>Stp.box rfl (fun w2 h2 s2 r2=>⟨h2,?_⟩))
 refine ER.st rfl rfl rfl rfl (fun w3 h3=>Stp.box rfl (fun w4 h4 s4 r4=>⟨h4,?_⟩))
 refine ER.st rfl rfl rfl rfl (fun w5 h5=>Stp.box rfl (fun w6 h6 s6 r6=>⟨h6,?_⟩))
 refine ER.sil rfl rfl rfl rfl (Sil.assign rfl) ?_;refine ER.nil (fun w7 h7=>?_)
 refine AQ.then ?_;refine EC.seq ?_;refine EC.region (fun i=>[2].getD i 0) [0] rfl ?_
 have n0:=((((((h1.trans h2).trans h3).trans h4).trans h5).trans h6).trans h7).size;refine ER.st rfl rfl rfl rfl (fun w8 h8=>Stp.alloc inf25 (fun w9 h9 s9 r9=>⟨h9,?_⟩))
 have n1:=h8.size;have hB5:=Nat.le_trans n0 n1;refine ER.nil (fun w10 h10=>?_)
 refine AQ.then ?_;refine EC.seq ?_;refine EC.seq ?_;refine EC.region (fun i=>[1,1,0,1,2].getD i 0) [0,1,2,3,4] rfl ?_
 refine ER.sil rfl rfl rfl rfl (Sil.fieldAddr Tryz.underlying39 rfl inf36 rfl) ?_;refine ER.sil rfl rfl rfl rfl (Sil.fieldAddr Tryz.underlying36 rfl inf30 rfl) ?_;refine ER.ex rfl rfl rfl rfl (Exa.load flat30 rfl (((r2.ext (((((((h3.trans h4).trans h5).trans h6).trans h7).trans h8).trans h9).trans h10))).cell hlv)) ?_;refine ER.sil rfl rfl rfl rfl (Sil.makeFunc rfl rfl) ?_;have hes:=(r9.ext h10).lt;refine ER.st rfl rfl rfl rfl (fun w11 h11=>Stp.call fok22 rfl rfl (Calls.mono ((some_lnC_any lv _ w11 hll.isS3 ⟨_,_,_,rfl⟩)) ?_))
 rintro _ w12 ⟨v12,rfl,h12,⟨c1,c2,hv12,hc112,hc212,hl1,hl2⟩⟩;refine⟨_,rfl,h12,?_⟩;subst hv12;have hes2:=h11.size;refine ER.nil (fun w13 h13=>?_)
 refine AQ.then ?_;refine EC.block ?_;have hw1:=((((((((((((h1.trans h2).trans h3).trans h4).trans h5).trans h6).trans h7).trans h8).trans h9).trans h10).trans h11).trans h12).trans h13);have hx8:=((((h9.trans h10).trans h11).trans h12).trans h13);have k50:=(r9.ext (((h10.trans h11).trans h12).trans h13));have hl5:=k50.lt;have hc1:=(hc112.ext h13);have hc2:=(hc212.ext h13)
 refine EC.rangeA (xs:=(((inf.lines.filter (lnOf f n)).map fun x=>[Value.agg (lnC x).toArray]))) (mem:=(fun b=>b<w8.heap.size∨b=c1∨b=c2)) rfl fok84 rfl (fun x hx=>by obtain⟨y,_,rfl⟩:=List.mem_map.1 hx;rfl)
   (fun j S1 W=>∃ ov,S1=(fun b=>b=w8.heap.size∨ov.ownBlock=some b)∧Ext w W∧Row W w8.heap.size 25 [ov]∧OwnQ W (w8.heap.size+1) 3 1 ov ((inf.lines.filter (lnOf f n)).take j).length ((((inf.lines.filter (lnOf f n)).take j).map (·.at_)).map (Value.int .i64)))
   (fun _ _ _=>False)
   (fun j S1 W W' h m=>by
       obtain⟨ov,rfl,hx,h5,ho⟩:=h
       exact⟨ov,rfl,hx.modify m (fun k hk=>Nat.le_trans hw1.size hk.1),m.row h5 (fun hb=>hb.2 (.inl rfl)),ho.mod m (fun k hk hb=>hb.2 (.inr hk))⟩) (fun _ _ _ _ h _=>h) (fun j S1 W h b hb=>by
       obtain⟨ov,rfl,hx,h5,ho⟩:=h;rcases hb with rfl|hb
       ·exact h5.lt
       ·exact(ho.lt b hb).2)
   (fun W1 hW=>some_lnC_seq inf.lines lv _ [ptr w3.heap.size,ptr w5.heap.size] (lnOf f n) w8 c1 c2 W1 (hx8.trans hW) (hll.ext (((((((h1.trans h2).trans h3).trans h4).trans h5).trans h6).trans h7).trans h8)) fok23 (fun x wz hz=>of1_any x f n w3.heap.size w5.heap.size wz (r4.ext ((((h5.trans h6).trans h7).trans h8).trans hz)) (r6.ext ((h7.trans h8).trans hz))) (hc1.ext hW) (hc2.ext hW)) (fun b=>b=w8.heap.size∨Value.ownBlock (.slice none 0 0)=some b) (fun b hb=>by
       have hxs:=hx8.size;rcases hb with h|rfl|rfl
       ·exact⟨fun hs=>hs.elim (fun e=>by omega) (fun e=>by cases e),by omega⟩
       ·exact⟨fun hs=>hs.elim (fun e=>by omega) (fun e=>by cases e),hc1.lt⟩
       ·exact⟨fun hs=>hs.elim (fun e=>by omega) (fun e=>by cases e),hc2.lt⟩) (⟨_,rfl,hw1,k50,OwnQ.of_own (World.ownsRow_nil _ _ _ _)⟩) (fun k E W=>∃ b,∃ hk:k<((inf.lines.filter (lnOf f n))).length,E=[(7,ptr w8.heap.size),(8,ptr b)]∧Row W b 43 (lnC ((inf.lines.filter (lnOf f n)))[k])∧w13.heap.size+1<b) (fun k E W W' h m=>by
       obtain⟨b,hk,rfl,h1,h2⟩:=h
       exact⟨b,hk,rfl,m.row h1 (fun e=>by omega),h2⟩) ?_ ?_ ?_ ?_
 ·intro lr kr wr hkr hlr;have hE:=Ext.refl wr;have hkr2:kr<((inf.lines.filter (lnOf f n))).length:=by simpa using hkr
  rw [List.getElem_map];refine EC.region (fun i=>[2,3].getD i 0) [0,1] rfl ?_
  refine ER.st rfl rfl rfl rfl (fun w14 h14=>Stp.alloc inf43 (fun w15 h15 s15 r15=>⟨h15,?_⟩))
  have hn4:=Nat.le_trans hE.size h14.size;refine ER.bar rfl rfl rfl rfl (fun w16 h16=>Stp.store (by kernel_rfl) rfl rfl (r15.ext h16) rfl rfl (fun w17 u17 r17=>?_))
  have e17:=((h14.trans h15).trans h16).upd u17 h14.size;refine ER.nil (fun w18 h18=>?_)
  exact AQ.assignedA (A:=fun E W=>(fun k E W=>∃ b,∃ hk:k<((inf.lines.filter (lnOf f n))).length,E=[(7,ptr w8.heap.size),(8,ptr b)]∧Row W b 43 (lnC ((inf.lines.filter (lnOf f n)))[k])∧w13.heap.size+1<b) kr E W) [7,8] rfl ((hE.trans e17).trans h18) (⟨_,by simpa using hkr,rfl,(r17.ext h18),by omega⟩)
 ·intro lr kr Sr wr Er hkr hI hM hA;have hE:=Ext.refl wr;obtain⟨ov,rfl,hx,k5,ho⟩:=hI;obtain⟨b4,hkr2,rfl,k4,hb4⟩:=hA;refine EC.block ?_;refine EC.region (fun i=>[0,1,0,2,3,3].getD i 0) [0,1,2,3,4,5] rfl ?_
  refine ER.ex rfl rfl rfl rfl (Exa.load flat25 rfl ((k5.ext hE).cell rfl)) ?_;refine ER.sil rfl rfl rfl rfl (Sil.fieldAddr Tryz.underlying43 rfl inf3 rfl) ?_;refine ER.ex rfl rfl rfl rfl (Exa.load flat3 rfl ((k4.ext hE).cell rfl)) ?_;refine ER.st rfl rfl rfl rfl (fun w19 h19=>Stp.buildAll [_] Tryz.underlying25 inf3 rfl rfl rfl rfl rfl rfl (fun w20 h20 s20 r20=>⟨h20,?_⟩))
  refine ER.bar rfl rfl rfl rfl (fun w21 h21=>?_)
  have hoa:=ho.ext (((hE.trans h19).trans h20).trans h21);have hsa:=(((hE.trans h19).trans h20).trans h21).size;have hxa:=hx.trans (((hE.trans h19).trans h20).trans h21);refine Stp.appendQ Tryz.underlying25 inf3 rfl rfl rfl hoa (Nat.le_trans (Nat.succ_le_of_lt k5.lt) hsa) (Reads.of_row (r20.ext h21) rfl (by decide)) (by intro q hq;simp [catCells,Value.cells]at hq;subst hq;rfl) (by rw [List.length_take];omega) (by unfold maxLen;rw [List.length_take];omega) (fun vq w22 ob g22 nb=>?_)
  obtain⟨qa,qc,rfl,_⟩:=ob.reads.isS;have hMb:=((((hE.trans h19).trans h20).trans h21).mod (fun b=>b=w8.heap.size∨ov.ownBlock=some b)).trans (Mod.of_grown g22 (fun k hk=>.inr hk))
  have hob:=fun b (hb:b<wr.heap.size) (hs:b=w8.heap.size∨Value.ownBlock (.slice qa _ qc)=some b)=>hs.imp (fun h=>h) (fun hs=>(nb b hs).elim (fun h=>h) (fun hge=>absurd hb (by omega)))
  have hxb:=hxa.grown g22 (fun k hk=>Nat.le_trans hB5 (Nat.le_of_succ_le (hoa.lt k hk).1))
  have k5b:=(k5.ext (((hE.trans h19).trans h20).trans h21)).grown g22 (fun e=>by have:=(hoa.lt _ e.symm).1;omega)
  refine ER.bar rfl rfl rfl rfl (fun w23 h23=>Stp.store (by kernel_rfl) rfl rfl (k5b.ext ((Ext.refl _).trans h23)) rfl rfl (fun w24 u24 r5=>?_))
  have hMc:=(hMb.trans (((Ext.refl _).trans h23).mod _)).trans (u24.mod (S:=fun b=>b=w8.heap.size∨ov.ownBlock=some b) (.inl rfl))
  have hxc:=(hxb.trans ((Ext.refl _).trans h23)).upd u24 hB5;have hoc:=(ob.ext ((Ext.refl _).trans h23)).upd u24 (fun k hk=>by have:=(ob.lt k hk).1;omega)
  refine ER.nil (fun w25 h25=>?_)
  refine AQ.blockNormal ?_;refine AQ.rqN (fun b=>b=w8.heap.size∨_) (hMc.trans (h25.mod _)) hob ⟨_,rfl,hxc.trans h25,r5.ext h25,?_⟩
  rw [List.take_succ_eq_append_getElem hkr2,List.length_append,List.map_append,List.map_append];exact hoc.ext h25
 ·intro D Sr wr hD hM hold hnD hDr hI;have hE:=Ext.refl wr;obtain⟨ov,rfl,hx,k5,ho⟩:=hI;have hlx:((inf.lines.filter (lnOf f n)).map fun x=>[Value.agg (lnC x).toArray]).length=(inf.lines.filter (lnOf f n)).length:=List.length_map _
  rw [hlx,List.take_length,← hal]at ho;refine AQ.blockNormal ?_;refine AQ.then ?_;refine EC.seq ?_;refine EC.region (fun i=>[0,3].getD i 0) [0,1] rfl ?_
  refine ER.ex rfl rfl rfl rfl (Exa.load flat25 rfl ((k5.ext hE).cell rfl)) ?_;refine ER.bar rfl rfl rfl rfl (fun w26 h26=>Stp.call fok24 rfl rfl (Calls.mono (sort_any (addrS inf f n) _ _ w26 (ho.ext (hE.trans h26)) (by omega)) ?_))
  rintro _ w27 ⟨rfl,M27,o27⟩;refine⟨_,rfl,?_⟩;have hlow:=fun k hk=>(ho.lt k hk).1
  have xs_:=(hx.trans (hE.trans h26)).modify M27 (fun k hk=>by have:=hlow k hk;omega)
  have ks_:=M27.row (k5.ext (hE.trans h26)) (fun hk=>by have:=hlow _ hk;omega)
  have ds_:=(M27.block D (Ext.obj (hE.trans h26) hDr |> fun h=>(Array.getElem?_eq_some_iff.1 h).1) (fun hk=>hnD (.inr hk))).trans (Ext.obj (hE.trans h26) hDr)
  have os_:=o27;rw [show(addrS inf f n).length=((addrS inf f n).mergeSort fun x y=>decide (x≤y)).length from(List.length_mergeSort ..).symm]at os_
  refine ER.nil (fun w28 h28=>?_)
  refine AQ.then ?_;refine EC.seq ?_;refine EC.region (fun i=>[0,3,1].getD i 0) [0,1,2] rfl ?_
  refine ER.ex rfl rfl rfl rfl (Exa.load flat25 rfl ((ks_.ext h28).cell rfl)) ?_;refine ER.bar rfl rfl rfl rfl (fun w29 h29=>Stp.call fok25 rfl rfl (Calls.mono (compact_any ((addrS inf f n).mergeSort fun x y=>decide (x≤y)) _ _ w29 (os_.ext (h28.trans h29)) (by rw [List.length_mergeSort];omega)) ?_))
  rintro _ w30 ⟨vc,rfl,M30,o30⟩;refine⟨_,rfl,?_⟩;have xc_:=(xs_.trans (h28.trans h29)).modify M30 (fun k hk=>by have:=hlow k hk;omega)
  have dc_:=(M30.block D (Ext.obj (h28.trans h29) ds_ |> fun h=>(Array.getElem?_eq_some_iff.1 h).1) (fun hk=>hnD (.inr hk))).trans (Ext.obj (h28.trans h29) ds_)
  have oc_:=o30.1;refine ER.sil rfl rfl rfl rfl (Sil.assign rfl) ?_;refine ER.nil (fun w31 h31=>?_)
  refine AQ.then ?_;refine EC.ret ?_
  exact AQ.outM (.inr rfl) [D] (res1 Tryz.results8 rfl) (by simp) (by simpa using Ext.obj h31 dc_) (fun w' hm=>⟨_,rfl,(xc_.trans h31).modify hm (fun k hk=>by rw [List.mem_singleton]at hk;subst hk;exact Nat.le_trans hw1.size hD),ints_q ((oc_.ext h31).mod hm (fun k hk hb=>by rw [List.mem_singleton]at hb;exact ownq_ne (oc_.ext h31) (Ext.obj h31 dc_) hk hb)),fun k hk=>by
    have:=(oc_.lt k hk).1
    omega⟩)
 ·intro D c Sr wr hD hM hold hnD hDr hX;have hE:=Ext.refl wr;exact hX.elim
end Go.Proofs.YtobpljbkdffkbaaGreat
namespace Go.LocateLaw
open Go.Lib
theorem upTo_spec (zs:List Int) (hs:zs.Pairwise (·≤·)):∀ m,m≤zs.length →
   (compactUpTo zs.toArray m).Pairwise (· < ·)∧∀ y,y∈compactUpTo zs.toArray m↔∃ j,∃ h:j<zs.length,j<m∧zs[j]=y
 |0,_=>by simp [compactUpTo]
 |m+1,hm=>by
   obtain⟨ih1,ih2⟩:=upTo_spec zs hs m (by omega)
   have hml:m<zs.length:=by omega
   have hget:∀ j,j<zs.length→zs.toArray[j]! = zs[j]!:=fun j hj=>by simp [hj]
   have em:zs.toArray[m]! = zs[m]:=by rw [hget m hml,getElem!_pos zs m hml]
   rw [compactUpTo_succ,em]
   by_cases h0:m=0
   ·subst h0;rw [if_pos (by simp [keeps])]
    simp only [compactUpTo,List.range_zero,List.filter_nil,List.map_nil,List.nil_append];refine⟨List.pairwise_singleton ..,fun y=>?_⟩
    simp only [List.mem_singleton];constructor
    ·rintro rfl;exact⟨0,hml,by omega,rfl⟩
    ·rintro⟨j,hj,hj1,rfl⟩;have:j=0:=by omega
     subst this;rfl
   ·have hpl:m-1<zs.length:=by omega
    have ep:zs.toArray[m-1]! = zs[m-1]:=by rw [hget _ hpl,getElem!_pos zs _ hpl]
    have hle:zs[m-1]≤zs[m]:=List.pairwise_iff_getElem.1 hs _ _ hpl hml (by omega)
    by_cases he:zs[m]=zs[m-1]
    ·rw [if_neg (by rw [keeps_neg (Nat.pos_of_ne_zero h0) (by rw [em,ep,he])];exact Bool.false_ne_true),List.append_nil]
     refine⟨ih1,fun y=>(ih2 y).trans ⟨fun⟨j,hj,h1,h2⟩=>⟨j,hj,by omega,h2⟩,fun⟨j,hj,h1,h2⟩=>?_⟩⟩
     by_cases hjm:j=m
     ·subst hjm;exact⟨j-1,hpl,by omega,by rw [← he,h2]⟩
     ·exact⟨j,hj,by omega,h2⟩
    ·rw [if_pos (keeps_pos (by rw [em,ep];exact he))]
     refine⟨List.pairwise_append.2 ⟨ih1,List.pairwise_singleton ..,fun a ha b hb=>?_⟩,fun y=>?_⟩
     ·obtain⟨j,hj,h1,rfl⟩:=(ih2 a).1 ha;rw [List.mem_singleton]at hb;subst hb
      have:zs[j]≤zs[m-1]:=by
        by_cases e:j=m-1
        ·subst e;exact Int.le_refl _
        ·exact List.pairwise_iff_getElem.1 hs _ _ hj hpl (by omega)
      omega
     ·rw [List.mem_append,ih2,List.mem_singleton];constructor
      ·rintro(⟨j,hj,h1,h2⟩|rfl)
       ·exact⟨j,hj,by omega,h2⟩
       ·exact⟨m,hml,by omega,rfl⟩
      ·rintro⟨j,hj,h1,h2⟩
       by_cases hjm:j=m
       ·subst hjm;exact .inr h2.symm
       ·exact .inl ⟨j,hj,by omega,h2⟩
def bh:ByteArray:=⟨#[104]⟩
end Go.LocateLaw
