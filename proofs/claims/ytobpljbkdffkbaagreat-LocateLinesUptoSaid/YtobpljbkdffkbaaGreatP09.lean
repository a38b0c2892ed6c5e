/- A part of the proof (texts SJ, Field, SK, SL). -/
import Derived.Laws.CopyRow
import Derived.Lib.BufferWrite
import Derived.Lib.ConvBytes
import Derived.Test.YtobpljbkdffkbaaGreatP02
import Derived.Test.YtobpljbkdffkbaaGreatP03
import Derived.Test.YtobpljbkdffkbaaGreatP08
set_option linter.all false
set_option maxRecDepth 100000
namespace Go.SX
open Go.XK Go.RowKit
section
variable {C:Cx} {σ:St} {m m':Mm} {ids:List Value} {a:Act}
theorem HSat.app (e:List Value) {i:Nat} {hb:HB} (h:HSat m ids i hb):HSat m (ids++e) i hb:=by
 cases hb with
 |row=>obtain⟨b,vs,h1,h2,h3⟩:=h;exact⟨b,vs,get_app h1,h2,DenL.app e _ h3⟩
 |fro=>obtain⟨b,vs,h1,h2,h3,h4⟩:=h;exact⟨b,vs,get_app h1,h2,DenL.app e _ h3,h4⟩
 |arr=>obtain⟨v,uss,h1,h2⟩:=h;exact⟨v,uss,get_app h1,h2⟩
 |far=>obtain⟨v,h1,h2⟩:=h;exact⟨v,get_app h1,h2⟩
 |vec=>obtain⟨b,uss,h1,h2⟩:=h;exact⟨b,uss,get_app h1,h2⟩
 |mp=>obtain⟨b,h1,h2⟩:=h;exact⟨b,get_app h1,h2⟩
 |nst=>obtain⟨v,vs,us,h1,h2⟩:=h;exact⟨v,vs,us,get_app h1,h2.1,h2.2,h2.3,h2.4,h2.5,fun k j e=>by obtain⟨q1,q2,q3,u,q4,q5,q6⟩:=h2.6 k j e;exact⟨q1,q2,q3,u,q4,get_app q5,q6⟩,h2.7⟩
 |nfr=>obtain⟨v,vs,h1,h2⟩:=h;exact⟨v,vs,get_app h1,h2⟩
 |ext=>obtain⟨v,h1,h2⟩:=h;exact⟨v,get_app h1,h2⟩
 |gone=>trivial
theorem HSat.named {i:Nat} {hb:HB} (h:HSat m ids i hb) (ho:hb.own=true):∃ v,ids[i]?=some v:=by
 cases hb<;>simp only [HB.own]at ho<;>try (cases ho;done)
 case row=>obtain⟨b,vs,h1,_⟩:=h;exact⟨_,h1⟩
 case arr=>obtain⟨v,uss,h1,_⟩:=h;exact⟨_,h1⟩
 case vec=>obtain⟨b,uss,h1,_⟩:=h;exact⟨_,h1⟩
 case mp=>obtain⟨b,h1,_⟩:=h;exact⟨_,h1⟩
 case nst=>obtain⟨v,vs,us,h1,_⟩:=h;exact⟨_,h1⟩
 case ext=>obtain⟨v,h1,_⟩:=h;exact⟨_,h1⟩
theorem fp_app {e:List Value} {i:Nat} {hb:HB} {b:Nat} (h:HSat m ids i hb) (hf:Fp (ids++e) i hb b):Fp ids i hb b:=by
 obtain⟨ho,v,h1,h2⟩:=hf;obtain⟨u,h3⟩:=h.named ho;rw [get_app h3]at h1;cases h1;exact⟨ho,_,h3,h2⟩
theorem setE_heap (σ:St) (d:Option Tmp) (s:SV):(setE σ d s).heap=σ.heap∧(setE σ d s).nb=σ.nb∧(setE σ d s).n0=σ.n0∧(setE σ d s).gen=σ.gen∧(setE σ d s).kn=σ.kn:=by
 cases d<;>exact⟨rfl,rfl,rfl,rfl,rfl⟩
theorem setG_heap (σ:St) (d:Option Tmp) (π:Path) (s:SV):(setG σ d π s).heap=σ.heap∧(setG σ d π s).nb=σ.nb∧(setG σ d π s).n0=σ.n0∧(setG σ d π s).kn=σ.kn∧(setG σ d π s).env=σ.env:=by
 cases d<;>exact⟨rfl,rfl,rfl,rfl,rfl⟩
theorem SatH.of {σ':St} (h:SatH C σ m ids) (h1:σ'.heap=σ.heap) (h2:σ'.nb=σ.nb) (h3:σ'.n0=σ.n0):SatH C σ' m ids :=
 ⟨by rw [h2];exact h.len,by rw [h1];exact h.heap,by rw [h1];exact h.low,h.S0,h.S,h.mod,h.glob,by rw [h3];exact h.n0,by rw [h3];exact h.pre⟩
theorem Sat.put (h:Sat C σ m ids a) {d:Option Tmp} (hd:dOK d C.N=true) (hf:fresh σ d=true) {s:SV} {v:Value} (hv:Den m ids s v):Sat C (setE σ d s) m ids (a.put d v) :=
 have q:=setE_heap σ d s
 ⟨h.toSatH.of q.1 q.2.1 q.2.2.1,h.toSatF.put hd hf hv⟩
theorem Sat.putG (h:Sat C σ m ids a) {d:Option Tmp} (hd:dOK d C.N=true) (hf:fresh σ d=true) {π:Path} (hn:∀ t,d=some t→∀ g∈π,g.1≠t) {s:SV} {v:Value} (hv:Holds a π→Den m ids s v) (hv':¬ Holds a π→v=undef) :
   Sat C (setE (setG σ d π s) d .un) m ids (a.put d v) :=
 have q:=setE_heap (setG σ d π s) d .un;have r:=setG_heap σ d π s
 ⟨h.toSatH.of (q.1.trans r.1) (q.2.1.trans r.2.1) (q.2.2.1.trans r.2.2.1),h.toSatF.putG hd hf hn hv hv'⟩
theorem Sat.newB {w':World} (h:Sat C σ m ids a) (he:Ext m.w w') (v:Value) (hb:HB) (hs:HSat ⟨w',m.S⟩ (ids++[v]) σ.nb hb) (hf:∀ b,Fp (ids++[v]) σ.nb hb b→m.w.heap.size≤b) :
   Sat C (newN σ hb) ⟨w',m.S⟩ (ids++[v]) a:=by
 have hle:m.le ⟨w',m.S⟩:=Ext.le (S:=m.S) he fun b hb=>(h.S b hb).1
 have h':=h.ext he;have old:∀ i hb0,lk σ.heap i=some hb0→HSat ⟨w',m.S⟩ (ids++[v]) i hb0:=fun i hb0 hi=>(h'.heap.sat i hb0 hi).app [v]
 have oldF:∀ i hb0 b,lk σ.heap i=some hb0→Fp (ids++[v]) i hb0 b→Fp ids i hb0 b:=fun i hb0 b hi hf=>fp_app (h'.heap.sat i hb0 hi) hf
 have oldL:∀ i hb0 b,lk σ.heap i=some hb0→Fp ids i hb0 b→b<m.w.heap.size:=fun i hb0 b hi hf=>fp_lt (h.heap.sat i hb0 hi) hf
 refine⟨⟨by simp [newN,h.len],⟨fun i hb0 hi=>?_,fun i hb0 j hb1 hi hj hne b f1 f2=>?_,fun i hb0 b hi f1 f2=>?_⟩,fun i hb0 b hi f1=>?_,h'.S0,h'.S,h'.mod,h'.glob,h'.n0,fun i hi=>?_⟩,?_⟩
 ·simp only [newN,lk_cons]at hi;split at hi
  ·rename_i e;subst e;cases hi;exact hs
  ·exact old i hb0 hi
 ·simp only [newN,lk_cons]at hi hj;split at hi
  ·rename_i e;subst e;cases hi;split at hj
   ·exact absurd ‹_› hne
   ·have:=oldL j hb1 b hj (oldF j hb1 b hj f2);have:=hf b f1;omega
  ·split at hj
   ·rename_i e;subst e;cases hj;have:=oldL i hb0 b hi (oldF i hb0 b hi f1);have:=hf b f2;omega
   ·exact h.heap.sep i hb0 j hb1 hi hj hne b (oldF i hb0 b hi f1) (oldF j hb1 b hj f2)
 ·simp only [newN,lk_cons]at hi;split at hi
  ·rename_i e;subst e;cases hi;have:=hf b f1;have:=(h.S b f2).1;omega
  ·exact h.heap.fpS i hb0 b hi (oldF i hb0 b hi f1) f2
 ·simp only [newN,lk_cons]at hi;split at hi
  ·rename_i e;subst e;cases hi;have:=hf b f1;have:=h.mod.size;exact .inr (by omega)
  ·exact h.low i hb0 b hi (oldF i hb0 b hi f1)
 ·have:ids[i]?=C.ids0[i]?:=h.pre i hi;rw [← this]
  have hlt:i<ids.length:=by
    by_cases hl:i<ids.length
    ·exact hl
    ·rw [List.getElem?_eq_none (by omega)]at this
     have:=List.getElem?_eq_none_iff.1 this.symm;have:=h.n0;simp only [newN]at hi;omega
  rw [List.getElem?_append_left hlt]
 ·exact(h'.toSatF.app [v]).of rfl rfl rfl
theorem Sat.updG {w':World} {b i:Nat} {hb hb':HB} (h:Sat C σ m ids a) (hi:lk σ.heap i=some hb) (hu:Upd b m.w w') (hfb:Fp ids i hb b) (hs:HSat ⟨w',m.S⟩ ids i hb') (hf:∀ b',Fp ids i hb' b'→Fp ids i hb b') :
   Sat C (setH σ i hb') ⟨w',m.S⟩ ids a:=by
 have hnS:¬ m.S b:=h.heap.fpS i hb b hi hfb;have hle:m.le ⟨w',m.S⟩:=⟨fun k hk=>⟨hk,hu.block k fun e=>hnS (e▸hk)⟩,Nat.le_of_eq hu.size.symm⟩
 refine⟨⟨h.len,⟨fun j hb0 hj=>?_,fun j hb0 k hb1 hj hk hne c f1 f2=>?_,fun j hb0 c hj f1 f2=>?_⟩,fun j hb0 c hj f1=>?_,h.S0,fun c hc=>⟨by rw [hu.size];exact(h.S c hc).1,(h.S c hc).2⟩,?_,h.glob.le hle,h.n0,h.pre⟩,(h.toSatF.le hle).of rfl rfl rfl⟩
 ·simp only [setH,lk_cons]at hj;split at hj
  ·rename_i e;subst e;cases hj;exact hs
  ·rename_i e;exact(h.heap.sat j hb0 hj).le hle fun c hc=>hu.block c fun e1=>h.heap.sep j hb0 i hb hj hi (Ne.symm e) c hc (e1▸hfb)
 ·simp only [setH,lk_cons]at hj hk;split at hj
  ·rename_i e;subst e;cases hj;split at hk
   ·exact absurd ‹_› hne
   ·exact h.heap.sep _ _ _ _ hk hi (Ne.symm hne) c f2 (hf c f1)
  ·split at hk
   ·rename_i e;subst e;cases hk;exact h.heap.sep _ _ _ _ hj hi hne c f1 (hf c f2)
   ·exact h.heap.sep j hb0 k hb1 hj hk hne c f1 f2
 ·simp only [setH,lk_cons]at hj;split at hj
  ·rename_i e;subst e;cases hj;exact h.heap.fpS _ _ c hi (hf c f1) f2
  ·exact h.heap.fpS j hb0 c hj f1 f2
 ·simp only [setH,lk_cons]at hj;split at hj
  ·rename_i e;subst e;cases hj;exact h.low _ _ _ hi (hf c f1)
  ·exact h.low j hb0 c hj f1
 ·refine⟨hu.os.trans h.mod.os,hu.tape.trans h.mod.tape,hu.output.trans h.mod.output,Nat.le_trans h.mod.size (Nat.le_of_eq hu.size.symm),fun k hk hn=>(hu.block k fun e=>?_).trans (h.mod.block k hk hn)⟩
  subst e;rcases h.low i hb k hi hfb with h1|h1
  ·exact hn h1
  ·omega
theorem Sat.updB {w':World} {b i:Nat} {hb hb':HB} (h:Sat C σ m ids a) (hi:lk σ.heap i=some hb) (hu:Upd b m.w w') (hfb:Fp ids i hb b) (hs:HSat ⟨w',m.S⟩ ids i hb') (hf:∀ b',Fp ids i hb' b'→b'=b) :
   Sat C (setH σ i hb') ⟨w',m.S⟩ ids a:=h.updG hi hu hfb hs fun b' hf'=>(hf b' hf')▸hfb
theorem Sat.frz1 {T:TypeId} {z:Option Bool} {c:Nat} {l:List (TabT c)} {i:Nat} (h:Sat C σ m ids a) (hi:lk σ.heap i=some (.arr T z c l)) :
   Sat C (setH σ i (.far z c l)) ⟨m.w,fun b=>m.S b∨Fp ids i (.arr T z c l) b⟩ ids a:=by
 have hle:m.le ⟨m.w,fun b=>m.S b∨Fp ids i (.arr T z c l) b⟩:=⟨fun k hk=>⟨Or.inl hk,rfl⟩,Nat.le_refl _⟩
 refine⟨⟨h.len,⟨fun j hb0 hj=>?_,fun j hb0 k hb1 hj hk hne b f1 f2=>?_,fun j hb0 b hj f1 f2=>?_⟩,fun j hb0 b hj f1=>?_,fun b hb=>.inl (h.S0 b hb),fun b hb=>?_,h.mod,h.glob.le hle,h.n0,h.pre⟩,(h.toSatF.le hle).of rfl rfl rfl⟩
 ·simp only [setH,lk_cons]at hj;split at hj
  ·rename_i e;subst e;cases hj;obtain⟨v,uss,h1,h2,h3,h4,h5⟩:=h.heap.sat _ _ hi;exact⟨v,h1,uss,h2.reads,h3.le hle,fun _ b hb=>.inr ⟨rfl,v,h1,hasB_of hb⟩,h4,h5⟩
  ·rename_i e;exact(h.heap.sat j hb0 hj).le hle fun _ _=>rfl
 ·simp only [setH,lk_cons]at hj hk;split at hj
  ·rename_i e;subst e;cases hj;exact absurd f1.1 (by simp [HB.own])
  ·split at hk
   ·rename_i e;subst e;cases hk;exact absurd f2.1 (by simp [HB.own])
   ·exact h.heap.sep j hb0 k hb1 hj hk hne b f1 f2
 ·simp only [setH,lk_cons]at hj;split at hj
  ·rename_i e;subst e;cases hj;exact absurd f1.1 (by simp [HB.own])
  ·rename_i e;rcases f2 with f2|f2
   ·exact h.heap.fpS j hb0 b hj f1 f2
   ·exact h.heap.sep j hb0 i _ hj hi (Ne.symm e) b f1 f2
 ·simp only [setH,lk_cons]at hj;split at hj
  ·rename_i e;subst e;cases hj;exact absurd f1.1 (by simp [HB.own])
  ·exact h.low j hb0 b hj f1
 ·rcases hb with hb|hb
  ·exact h.S b hb
  ·exact⟨(fp_lt (m:=m) (h.heap.sat i _ hi) hb:b<m.w.heap.size),(h.low i _ b hi hb).elim (fun q=>.inr (.inl q)) (fun q=>.inr (.inr q))⟩
theorem Sat.frz2 {T:TypeId} {cs:List SV} {i:Nat} (h:Sat C σ m ids a) (hi:lk σ.heap i=some (.row T cs)) :
   Sat C (setH σ i (.fro T cs)) ⟨m.w,fun b=>m.S b∨Fp ids i (.row T cs) b⟩ ids a:=by
 have hle:m.le ⟨m.w,fun b=>m.S b∨Fp ids i (.row T cs) b⟩:=⟨fun k hk=>⟨Or.inl hk,rfl⟩,Nat.le_refl _⟩
 refine⟨⟨h.len,⟨fun j hb0 hj=>?_,fun j hb0 k hb1 hj hk hne b f1 f2=>?_,fun j hb0 b hj f1 f2=>?_⟩,fun j hb0 b hj f1=>?_,fun b hb=>.inl (h.S0 b hb),fun b hb=>?_,h.mod,h.glob.le hle,h.n0,h.pre⟩,(h.toSatF.le hle).of rfl rfl rfl⟩
 ·simp only [setH,lk_cons]at hj;split at hj
  ·rename_i e;subst e;cases hj;obtain⟨b,vs,h1,h2,h3⟩:=h.heap.sat _ _ hi;exact⟨b,vs,h1,h2,DenL.le hle _ h3,.inr ⟨rfl,_,h1,rfl⟩⟩
  ·rename_i e;exact(h.heap.sat j hb0 hj).le hle fun _ _=>rfl
 ·simp only [setH,lk_cons]at hj hk;split at hj
  ·rename_i e;subst e;cases hj;exact absurd f1.1 (by simp [HB.own])
  ·split at hk
   ·rename_i e;subst e;cases hk;exact absurd f2.1 (by simp [HB.own])
   ·exact h.heap.sep j hb0 k hb1 hj hk hne b f1 f2
 ·simp only [setH,lk_cons]at hj;split at hj
  ·rename_i e;subst e;cases hj;exact absurd f1.1 (by simp [HB.own])
  ·rename_i e;rcases f2 with f2|f2
   ·exact h.heap.fpS j hb0 b hj f1 f2
   ·exact h.heap.sep j hb0 i _ hj hi (Ne.symm e) b f1 f2
 ·simp only [setH,lk_cons]at hj;split at hj
  ·rename_i e;subst e;cases hj;exact absurd f1.1 (by simp [HB.own])
  ·exact h.low j hb0 b hj f1
 ·rcases hb with hb|hb
  ·exact h.S b hb
  ·exact⟨(fp_lt (m:=m) (h.heap.sat i _ hi) hb:b<m.w.heap.size),(h.low i _ b hi hb).elim (fun q=>.inr (.inl q)) (fun q=>.inr (.inr q))⟩
theorem Sat.frz3 {T T' c' c:Nat} {ls:List (TabT c')} {i:Nat} (h:Sat C σ m ids a) (hi:lk σ.heap i=some (.nst T T' c' c ls none)) :
   Sat C (setH σ i (.nfr none c' ls)) ⟨m.w,fun b=>m.S b∨Fp ids i (.nst T T' c' c ls none) b⟩ ids a:=by
 have hle:m.le ⟨m.w,fun b=>m.S b∨Fp ids i (.nst T T' c' c ls none) b⟩:=⟨fun k hk=>⟨Or.inl hk,rfl⟩,Nat.le_refl _⟩
 refine⟨⟨h.len,⟨fun j hb0 hj=>?_,fun j hb0 k hb1 hj hk hne b f1 f2=>?_,fun j hb0 b hj f1 f2=>?_⟩,fun j hb0 b hj f1=>?_,fun b hb=>.inl (h.S0 b hb),fun b hb=>?_,h.mod,h.glob.le hle,h.n0,h.pre⟩,(h.toSatF.le hle).of rfl rfl rfl⟩
 ·simp only [setH,lk_cons]at hj;split at hj
  ·rename_i e;subst e;cases hj;obtain⟨v,vs,us,h1,h2⟩:=h.heap.sat _ _ hi;have hul:us.length=ls.length:=by have:=h2.out.1;omega
   have e1:(us.map fun u=>[u]).flatten=us:=by clear hul h2;induction us with
     |nil=>rfl
     |cons u r ih=>simp only [List.map_cons,List.flatten_cons,List.singleton_append,ih]
   refine⟨v,vs,h1,us.map fun u=>[u],?_,⟨by simp [hul],fun q hq=>?_,fun r x hr=>?_⟩,fun _ b hb=>.inr ⟨rfl,_,h1,v,by simp,hb⟩,trivial,h2.B⟩
   ·rw [e1,h2.K1];exact h2.out.reads
   ·obtain⟨u,_,rfl⟩:=List.mem_map.1 hq;rw [h2.K1];rfl
   ·obtain⟨u,q1,q2,l,uss,q3,q4,q5,q6⟩:=h2.row r x hr (fun _ _ e=>by cases e)
    refine⟨[u],by rw [List.getElem?_map,q2];rfl,(ES_iff (ids:=ids) c' x q3).2 ?_⟩
    rw [DenL];refine⟨u,[],rfl,?_,by rw [DenL]⟩
    rw [Den];exact⟨uss,q4.reads,q5.le hle,fun _ b hb=>.inr ⟨rfl,_,h1,u,by simp [List.mem_of_getElem? q1],hb⟩,trivial,q6⟩
  ·rename_i e;exact(h.heap.sat j hb0 hj).le hle fun _ _=>rfl
 ·simp only [setH,lk_cons]at hj hk;split at hj
  ·rename_i e;subst e;cases hj;exact absurd f1.1 (by simp [HB.own])
  ·split at hk
   ·rename_i e;subst e;cases hk;exact absurd f2.1 (by simp [HB.own])
   ·exact h.heap.sep j hb0 k hb1 hj hk hne b f1 f2
 ·simp only [setH,lk_cons]at hj;split at hj
  ·rename_i e;subst e;cases hj;exact absurd f1.1 (by simp [HB.own])
  ·rename_i e;rcases f2 with f2|f2
   ·exact h.heap.fpS j hb0 b hj f1 f2
   ·exact h.heap.sep j hb0 i _ hj hi (Ne.symm e) b f1 f2
 ·simp only [setH,lk_cons]at hj;split at hj
  ·rename_i e;subst e;cases hj;exact absurd f1.1 (by simp [HB.own])
  ·exact h.low j hb0 b hj f1
 ·rcases hb with hb|hb
  ·exact h.S b hb
  ·exact⟨(fp_lt (m:=m) (h.heap.sat i _ hi) hb:b<m.w.heap.size),(h.low i _ b hi hb).elim (fun q=>.inr (.inl q)) (fun q=>.inr (.inr q))⟩
theorem frz_gen:∀ {l:List Nat} {σ:St},(SX.frz σ l).gen=σ.gen∧(SX.frz σ l).kn=σ.kn
 |[],σ=>⟨rfl,rfl⟩
 |i::r,σ=>by
   rw [SX.frz];split
   ·exact frz_gen (l:=r)
   ·exact frz_gen (l:=r)
   ·exact frz_gen (l:=r)
   ·exact frz_gen (l:=r)
theorem Sat.frz:∀ (ns:List Nat) {σ:St} {m:Mm},Sat C σ m ids a→∃ S',m.le ⟨m.w,S'⟩∧Sat C (SX.frz σ ns) ⟨m.w,S'⟩ ids a
 |[],σ,m,h=>⟨m.S,Mm.le.refl m,h⟩
 |i::r,σ,m,h=>by
   rw [SX.frz];split
   ·rename_i T z c l hi;obtain⟨S',h1,h2⟩:=Sat.frz r (h.frz1 hi);exact⟨S',⟨fun k hk=>h1.S k (Or.inl hk),h1.size⟩,h2⟩
   ·rename_i T cs hi;obtain⟨S',h1,h2⟩:=Sat.frz r (h.frz2 hi);exact⟨S',⟨fun k hk=>h1.S k (Or.inl hk),h1.size⟩,h2⟩
   ·rename_i hi;obtain⟨S',h1,h2⟩:=Sat.frz r (h.frz3 hi);exact⟨S',⟨fun k hk=>h1.S k (Or.inl hk),h1.size⟩,h2⟩
   ·exact Sat.frz r h
theorem mapL_den {f:SV→SV} (hf:∀ s v,Den m ids s v→Den m ids (f s) v):∀ {l:List SV} {us:List Value},DenL m ids l us→DenL m ids (mapL f l) us
 |[],_,hd=>hd
 |s::r,us,hd=>by
   rw [mapL];rw [DenL]at hd ⊢;obtain⟨u,us',h1,h2,h3⟩:=hd;exact⟨u,us',h1,hf s u h2,mapL_den hf h3⟩
theorem vwF_den (h:Sat C σ m ids a):∀ (n:Nat) (s:SV) (v:Value),Den m ids s v→Den m ids (vwF σ n s) v
 |0,_,_,hd=>hd
 |n+1,s,v,hd=>by
   have ih:=vwF_den h n;unfold vwF;split
   ·rename_i i;split
    ·rename_i z c l hi;rw [Den]at hd;obtain⟨u,h1,h2⟩:=h.heap.sat i _ hi;rw [hd.1]at h1;cases h1;rw [Den];exact h2
    ·exact hd
   ·rename_i i;split
    ·rename_i z c l hi;rw [Den]at hd;obtain⟨us,h0,_⟩:=hd;obtain⟨u,vs,h1,h2⟩:=h.heap.sat i _ hi;obtain⟨rfl,_⟩:=tup_inj h0 h1;rw [Den];exact h2
    ·exact hd
   ·rename_i i o;split
    ·rename_i T cs hi;rw [Den]at hd;obtain⟨b,h1,rfl⟩:=hd;obtain⟨b',vs,h2,h3,h4,h5⟩:=h.heap.sat i _ hi;rw [h1]at h2;cases h2;rw [Den];exact⟨b,0,vs,by rw [Nat.zero_add],h5,h3.at,mapL_den ih h4⟩
    ·exact hd
   ·rw [Den]at hd ⊢;obtain⟨us,h1,h2⟩:=hd;exact⟨us,h1,mapL_den ih h2⟩
   ·rw [Den]at hd ⊢;obtain⟨us,h1,h2⟩:=hd;exact⟨us,h1,mapL_den ih h2⟩
   ·rw [Den]at hd ⊢;obtain⟨b,q,us,h1,h0,h2,h3,h4⟩:=hd;exact⟨b,q,us,h1,h0,h2,h3,mapL_den ih h4⟩
   ·rw [Den]at hd ⊢;obtain⟨us,vs,h1,h2,h3⟩:=hd;exact⟨us,vs,h1,mapL_den ih h2,mapL_den ih h3⟩
   ·rw [Den]at hd ⊢;obtain⟨u,h1,h2⟩:=hd;exact⟨u,h1,ih _ _ h2⟩
   ·exact hd
theorem vw_den (h:Sat C σ m ids a) {s:SV} {v:Value} (hd:Den m ids s v):Den m ids (vw σ s) v:=vwF_den h 6 s v hd
theorem vwL_den (h:Sat C σ m ids a) {l:List SV} {us:List Value} (hd:DenL m ids l us):DenL m ids (vwL σ l) us:=mapL_den (vwF_den h 6) hd
theorem HSat.re {ids':List Value} {k:Nat} {hb:HB} (hden:∀ s y,Den m ids s y→Den m ids' s y) (hg:ids'[k]?=ids[k]?) (hg1:∀ (j:Nat) (u:Value),ids[j]?=some u→u.oneCell'=true→ids'[j]?=some u) (h:HSat m ids k hb):HSat m ids' k hb:=by
 have hL:∀ (cs:List SV) (us:List Value),DenL m ids cs us→DenL m ids' cs us:=by
   intro cs
   induction cs with
   |nil=>intro us h;rw [DenL]at h ⊢;exact h
   |cons s r ih=>intro us h;rw [DenL]at h ⊢;obtain⟨u,us',h1,h2,h3⟩:=h;exact⟨u,us',h1,hden s u h2,ih us' h3⟩
 cases hb with
 |row=>obtain⟨b,vs,h1,h2,h3⟩:=h;exact⟨b,vs,hg.trans h1,h2,hL _ _ h3⟩
 |fro=>obtain⟨b,vs,h1,h2,h3,h4⟩:=h;exact⟨b,vs,hg.trans h1,h2,hL _ _ h3,h4⟩
 |arr=>obtain⟨v,uss,h1,h2⟩:=h;exact⟨v,uss,hg.trans h1,h2⟩
 |far=>obtain⟨v,h1,h2⟩:=h;exact⟨v,hg.trans h1,h2⟩
 |vec=>obtain⟨b,uss,h1,h2⟩:=h;exact⟨b,uss,hg.trans h1,h2⟩
 |mp=>obtain⟨b,h1,h2⟩:=h;exact⟨b,hg.trans h1,h2⟩
 |nst=>obtain⟨v,vs,us,h1,h2⟩:=h;exact⟨v,vs,us,hg.trans h1,h2.1,h2.2,h2.3,h2.4,h2.5,fun k j e=>by obtain⟨q1,q2,q3,u,q4,q5,q6⟩:=h2.6 k j e;exact⟨q1,q2,q3,u,q4,hg1 j u q5 q6,q6⟩,h2.7⟩
 |nfr=>obtain⟨v,vs,h1,h2⟩:=h;exact⟨v,vs,hg.trans h1,h2⟩
 |ext=>obtain⟨v,h1,h2⟩:=h;exact⟨v,hg.trans h1,h2⟩
 |gone=>trivial
theorem Sat.re2 (h:Sat C σ m ids a) {i j:Nat} {σ':St} {ids':List Value} {h1 h2:HB} (hi0:σ.n0≤i) (hlen:ids'.length=σ'.nb) (hden:∀ s y,Den m ids s y→Den m ids' s y)
   (hget:∀ k:Nat,k≠i→k<ids.length→ids'[k]?=ids[k]?) (hg1:∀ (j:Nat) (u:Value),ids[j]?=some u→u.oneCell'=true→ids'[j]?=some u)
   (hl:∀ k hb,lk σ'.heap k=some hb→(k=i∧hb=h1)∨(k=j∧hb=h2)∨(k≠i∧k≠j∧lk σ.heap k=some hb)) (hs1:HSat m ids' i h1) (hs2:HSat m ids' j h2)
   (hd:∀ b,Fp ids' i h1 b→¬ Fp ids' j h2 b) (hP:∀ b,Fp ids' i h1 b∨Fp ids' j h2 b→∃ k hb,(k=i∨k=j)∧lk σ.heap k=some hb∧Fp ids k hb b)
   (he:σ'.env=σ.env) (hg:σ'.gen=σ.gen) (hk:σ'.kn=σ.kn) (hn:σ'.n0=σ.n0):Sat C σ' m ids' a:=by
 have lt:∀ (k:Nat) (v:Value),ids[k]?=some v→k<ids.length:=fun k v h=>(List.getElem?_eq_some_iff.1 h).1
 have sat:∀ k hb,k≠i→lk σ.heap k=some hb→HSat m ids' k hb:=fun k hb hki hkl=>by
   by_cases hgn:k<ids.length
   ·exact HSat.re hden (hget k hki hgn) hg1 (h.heap.sat k hb hkl)
   ·have:=h.heap.sat k hb hkl
    cases hb with
    |row=>obtain⟨_,_,q,_⟩:=this;exact absurd (lt _ _ q) hgn
    |fro=>obtain⟨_,_,q,_⟩:=this;exact absurd (lt _ _ q) hgn
    |arr=>obtain⟨_,_,q,_⟩:=this;exact absurd (lt _ _ q) hgn
    |far=>obtain⟨_,q,_⟩:=this;exact absurd (lt _ _ q) hgn
    |vec=>obtain⟨_,_,q,_⟩:=this;exact absurd (lt _ _ q) hgn
    |mp=>obtain⟨_,q,_⟩:=this;exact absurd (lt _ _ q) hgn
    |nst=>obtain⟨_,_,_,q,_⟩:=this;exact absurd (lt _ _ q) hgn
    |nfr=>obtain⟨_,_,q,_⟩:=this;exact absurd (lt _ _ q) hgn
    |ext=>obtain⟨_,q,_⟩:=this;exact absurd (lt _ _ q) hgn
    |gone=>trivial
 have old:∀ k hb b,k≠i→lk σ.heap k=some hb→Fp ids' k hb b→Fp ids k hb b:=fun k hb b hki hkl ⟨h1,v,h2,h3⟩=>by
   obtain⟨u,hu⟩:=(h.heap.sat k hb hkl).named h1;rw [hget k hki (lt _ _ hu)]at h2;exact⟨h1,v,h2,h3⟩
 have new:∀ k hb b,k≠i→k≠j→lk σ.heap k=some hb→(Fp ids' i h1 b∨Fp ids' j h2 b)→¬ Fp ids' k hb b:=fun k hb b hki hkj hkl hf f2=>by
   obtain⟨q,hq,hor,hql,hqf⟩:=hP b hf;exact h.heap.sep q hq k hb hql hkl (fun e=>by subst e;exact hor.elim hki hkj) b hqf (old k hb b hki hkl f2)
 refine⟨⟨hlen,⟨fun k hb hkl=>?_,fun k hb k' hb' hkl hkl' hne b f1 f2=>?_,fun k hb b hkl f1 f2=>?_⟩,fun k hb b hkl f1=>?_,h.S0,h.S,h.mod,h.glob,by rw [hn];exact h.n0,fun k hk0=>?_⟩,?_⟩
 ·rcases hl k hb hkl with ⟨rfl,rfl⟩|⟨rfl,rfl⟩|⟨q1,q2,q3⟩
  ·exact hs1
  ·exact hs2
  ·exact sat k hb q1 q3
 ·rcases hl k hb hkl with ⟨rfl,rfl⟩|⟨rfl,rfl⟩|⟨q1,q2,q3⟩<;>rcases hl k' hb' hkl' with ⟨rfl,rfl⟩|⟨rfl,rfl⟩|⟨q4,q5,q6⟩
  ·exact hne rfl
  ·exact hd b f1 f2
  ·exact new k' hb' b q4 q5 q6 (.inl f1) f2
  ·exact hd b f2 f1
  ·exact hne rfl
  ·exact new k' hb' b q4 q5 q6 (.inr f1) f2
  ·exact new k hb b q1 q2 q3 (.inl f2) f1
  ·exact new k hb b q1 q2 q3 (.inr f2) f1
  ·exact h.heap.sep k hb k' hb' q3 q6 hne b (old k hb b q1 q3 f1) (old k' hb' b q4 q6 f2)
 ·rcases hl k hb hkl with ⟨rfl,rfl⟩|⟨rfl,rfl⟩|⟨q1,q2,q3⟩
  ·obtain⟨q,hq,_,hql,hqf⟩:=hP b (.inl f1);exact h.heap.fpS q hq b hql hqf f2
  ·obtain⟨q,hq,_,hql,hqf⟩:=hP b (.inr f1);exact h.heap.fpS q hq b hql hqf f2
  ·exact h.heap.fpS k hb b q3 (old k hb b q1 q3 f1) f2
 ·rcases hl k hb hkl with ⟨rfl,rfl⟩|⟨rfl,rfl⟩|⟨q1,q2,q3⟩
  ·obtain⟨q,hq,_,hql,hqf⟩:=hP b (.inl f1);exact h.low q hq b hql hqf
  ·obtain⟨q,hq,_,hql,hqf⟩:=hP b (.inr f1);exact h.low q hq b hql hqf
  ·exact h.low k hb b q3 (old k hb b q1 q3 f1)
 ·rw [hn]at hk0;have hp:ids[k]?=C.ids0[k]?:=h.pre k hk0;rw [← hp]
  have hlt:k<ids.length:=by
    by_cases hlt:k<ids.length
    ·exact hlt
    ·rw [List.getElem?_eq_none (by omega)]at hp
     have:=List.getElem?_eq_none_iff.1 hp.symm;have:=h.n0;omega
  exact hget k (by omega) hlt
 ·exact⟨h.size,h.defers,by rw [he];exact fun t s hl=>⟨(h.env t s hl).1,hden _ _ (h.env t s hl).2⟩,by rw [hg];exact fun t π s hl=>⟨(h.gen t π s hl).1,fun hh=>hden _ _ ((h.gen t π s hl).2.1 hh),(h.gen t π s hl).2.2⟩,by rw [hk];exact h.kn⟩
theorem nst_get {i:Nat} {v t:Value} {vs:List Value} (hi:ids[i]?=some (.tuple (v::vs).toArray)):(∀ k:Nat,k≠i→(ids.set i t)[k]?=ids[k]?)∧(∀ (j:Nat) (u:Value),ids[j]?=some u→u.oneCell'=true→(ids.set i t)[j]?=some u)∧(ids.set i t)[i]?=some t :=
 ⟨fun k hk=>List.getElem?_set_ne (Ne.symm hk),fun j u hj h1=>get_set hi hj fun a e=>(by rw [e]at h1;cases h1),List.getElem?_set_self (List.getElem?_eq_some_iff.1 hi).1⟩
theorem set_get {vs:List Value} {k r:Nat} {u v w:Value} (hk:k<vs.length) (hw:(v::vs.set k u)[r]?=some w):(r=k+1∧w=u)∨(r≠k+1∧(v::vs)[r]?=some w):=by
 cases r with
 |zero=>exact .inr ⟨by omega,hw⟩
 |succ r =>
   by_cases e:k=r
   ·subst e;rw [List.getElem?_cons_succ,List.getElem?_set_self hk]at hw;cases hw;exact .inl ⟨rfl,rfl⟩
   ·rw [List.getElem?_cons_succ,List.getElem?_set_ne e]at hw;exact .inr ⟨by omega,by rw [List.getElem?_cons_succ];exact hw⟩
theorem fp_nst {i:Nat} {v:Value} {vs:List Value} {T T' c' c:Nat} {ls:List (TabT c')} {h:Option (Int×Nat)} {b:Nat} (hi:ids[i]?=some (.tuple (v::vs).toArray)):Fp ids i (.nst T T' c' c ls h) b↔∃ (r:Nat) (u:Value),(v::vs)[r]?=some u∧blkOf u=some b:=by
 constructor
 ·rintro⟨_,w,h1,h2⟩;rw [hi]at h1;cases h1;obtain⟨u,hu,hb⟩:=h2;obtain⟨r,hr,rfl⟩:=List.getElem_of_mem hu;exact⟨r,_,List.getElem?_eq_getElem (by simpa using hr),hb⟩
 ·rintro⟨r,u,h1,h2⟩;exact⟨rfl,_,hi,u,by simpa using List.mem_of_getElem? h1,h2⟩
theorem Sat.retN (h:Sat C σ m ids a) (i:Nat):∃ ids',Sat C (SX.retN σ i) m ids' a∧(∀ s y,Den m ids s y→Den m ids' s y)∧(SX.retN σ i).env=σ.env∧(SX.retN σ i).gen=σ.gen∧(SX.retN σ i).kn=σ.kn∧(SX.retN σ i).nb=σ.nb∧(SX.retN σ i).n0=σ.n0:=by
 unfold SX.retN;split
 ·rename_i T T' c' c ls k j hn hi;split
  ·rename_i e z c2 l2 hj;split
   ·rename_i x he hc hx;have he:=Nat.eq_of_beq_eq_true he;subst he;have hc:=Nat.eq_of_beq_eq_true hc;subst hc;have hES:=RW_ok hx;obtain⟨v,vs,us,q1,q2⟩:=h.heap.sat i _ hi;obtain⟨u,uss,q3,q4,q5,_,q6⟩:=h.heap.sat j _ hj;obtain⟨k0,kl,kv,u',ku,kj,_⟩:=q2.hole k j rfl;rw [q3]at kj;cases kj;have hij:i≠j:=fun e=>by subst e;rw [hi]at hj;cases hj
    have hvl:k.toNat<vs.length:=by rw [q2.len];exact kl
    obtain⟨g1,g2,g3⟩:=nst_get (t:=.tuple (v::vs.set k.toNat u).toArray) q1;have gu:∀ (r:Nat) (w:Value),(v::vs.set k.toNat u)[r]?=some w→(r=k.toNat+1∧w=u)∨(r≠k.toNat+1∧(v::vs)[r]?=some w):=fun r w hw=>set_get hvl hw
    have fpj:∀ b,blkOf u=some b→Fp ids j (.arr e z c2 l2) b:=fun b hb=>⟨rfl,u,q3,hasB_of hb⟩
    have fpi:∀ (r:Nat) (w:Value) (b:Nat),(v::vs)[r]?=some w→blkOf w=some b→Fp ids i (.nst T e c' c2 ls (some (k,j))) b:=fun r w b hw hb=>(fp_nst q1).2 ⟨r,w,hw,hb⟩
    refine⟨ids.set i (.tuple (v::vs.set k.toNat u).toArray),h.re2 (i:=i) (j:=j) (h1:=.nst T e c' c2 (ls.set k.toNat x) none) (h2:=.gone) (Nat.le_of_ble_eq_true hn) (by simp [setH,h.len]) (fun s y=>Den.set q1 s) (fun k hk _=>g1 k hk) g2 (fun r hb hl=>?_) ?_ trivial (fun b _ f=>by cases f.1) (fun b hf=>?_) rfl rfl rfl rfl,fun s y=>Den.set q1 s,rfl,rfl,rfl,rfl,rfl⟩
    ·simp only [setH,lk_cons]at hl;split at hl
     ·rename_i e;cases hl;exact .inl ⟨e.symm,rfl⟩
     ·rename_i e;split at hl
      ·rename_i e2;cases hl;exact .inr (.inl ⟨e2.symm,rfl⟩)
      ·rename_i e2;exact .inr (.inr ⟨Ne.symm e,Ne.symm e2,hl⟩)
    ·refine⟨v,vs.set k.toNat u,us,g3,by rw [List.length_set];exact q2.out,by simp [q2.len],q2.K1,by rw [List.length_set];exact q2.B,fun r y hr _=>?_,fun _ _ e=>(by cases e),fun r s w w' b hr hs hne hb hb'=>?_⟩
     ·by_cases er:k.toNat=r
      ·subst er;rw [List.getElem?_set_self kl]at hr;cases hr;exact⟨u,by rw [List.getElem?_set_self hvl],ku,l2,uss,hES,q4,q5,q6⟩
      ·rw [List.getElem?_set_ne er]at hr;obtain⟨w,w1,w2,w3⟩:=q2.row r y hr (fun k' j' e'=>by cases e';exact Ne.symm er)
       exact⟨w,by rw [List.getElem?_set_ne er];exact w1,w2,w3⟩
     ·rcases gu r w hr with ⟨e1,rfl⟩|⟨e1,hr2⟩<;>rcases gu s w' hs with ⟨e2,rfl⟩|⟨e2,hs2⟩
      ·omega
      ·exact h.heap.sep i _ j _ hi hj hij b (fpi s w' b hs2 hb') (fpj b hb)
      ·exact h.heap.sep i _ j _ hi hj hij b (fpi r w b hr2 hb) (fpj b hb')
      ·exact q2.sep r s w w' b hr2 hs2 hne hb hb'
    ·rcases hf with hf|hf
     ·obtain⟨r,w,hw,hb⟩:=(fp_nst g3).1 hf;rcases gu r w hw with ⟨_,rfl⟩|⟨_,hw⟩
      ·exact⟨j,_,.inr rfl,hj,fpj b hb⟩
      ·exact⟨i,_,.inl rfl,hi,fpi r w b hw hb⟩
     ·cases hf.1
   ·exact⟨ids,h,fun _ _ h=>h,rfl,rfl,rfl,rfl,rfl⟩
  ·exact⟨ids,h,fun _ _ h=>h,rfl,rfl,rfl,rfl,rfl⟩
 ·exact⟨ids,h,fun _ _ h=>h,rfl,rfl,rfl,rfl,rfl⟩
theorem Sat.lend (h:Sat C σ m ids a) {i j:Nat} {n:Int} {T1 T2 c' c c2:Nat} {ls:List (TabT c')} {l:List (TabT c2)} (hj:j=σ.nb) (hn0:σ.n0≤i) (hi:lk σ.heap i=some (.nst T1 T2 c' c ls none)) (h0:0≤n) (hlt:n.toNat<ls.length) (hes:ES c' (ls.getD n.toNat (TabZ c'))=some [.lst none c2 l]) :
   ∃ ids' u v vs us,ids[i]?=some (.tuple (v::vs).toArray)∧OwnQ m.w 0 T1 1 v ls.length us∧us[n.toNat]?=some u∧Den m ids' (.osl j) u∧Sat C (newN (setH σ i (.nst T1 T2 c' c ls (some (n,j)))) (.arr T2 none c2 l)) m ids' a:=by
 subst hj;obtain⟨v,vs,us,q1,q2⟩:=h.heap.sat i _ hi;obtain⟨u,r1,r2,l',uss,r3,r4,r5,r6⟩:=q2.row n.toNat _ (List.getElem?_eq_getElem hlt) (fun _ _ e=>by cases e)
 have hget0:ls.getD n.toNat (TabZ c')=ls[n.toNat]:=by rw [List.getD_eq_getElem?_getD,List.getElem?_eq_getElem hlt];rfl
 rw [hget0,r3]at hes;cases hes;have hvl:n.toNat<vs.length:=by rw [q2.len];exact hlt
 have hil:i<σ.nb:=by rw [← h.len];exact(List.getElem?_eq_some_iff.1 q1).1
 obtain⟨g1,g2,g3⟩:=nst_get (t:=.tuple (v::vs.set n.toNat (.slice none 0 0)).toArray) q1;have hsl:(ids.set i (.tuple (v::vs.set n.toNat (.slice none 0 0)).toArray)).length=σ.nb:=by rw [List.length_set];exact h.len
 have glast:(ids.set i (.tuple (v::vs.set n.toNat (.slice none 0 0)).toArray)++[u])[σ.nb]?=some u:=by
   rw [List.getElem?_append_right (by omega),hsl,Nat.sub_self];rfl
 have gi:=get_app (e:=[u]) g3;have hden:∀ s y,Den m ids s y→Den m (ids.set i (.tuple (v::vs.set n.toNat (.slice none 0 0)).toArray)++[u]) s y:=fun s y hd=>Den.app _ s (Den.set q1 s hd)
 have gu:∀ (r:Nat) (w:Value) (b:Nat),(v::vs.set n.toNat (.slice none 0 0))[r]?=some w→blkOf w=some b→r≠n.toNat+1∧(v::vs)[r]?=some w:=fun r w b hw hb=>by
   rcases set_get hvl hw with ⟨_,rfl⟩|h
   ·cases hb
   ·exact h
 have hu1:(v::vs)[n.toNat+1]?=some u:=by simpa using r1
 have fpi:∀ (r:Nat) (w:Value) (b:Nat),(v::vs)[r]?=some w→blkOf w=some b→Fp ids i (.nst T1 T2 c' c ls none) b:=fun r w b hw hb=>(fp_nst q1).2 ⟨r,w,hw,hb⟩
 have fpu:∀ b,Fp (ids.set i (.tuple (v::vs.set n.toNat (.slice none 0 0)).toArray)++[u]) σ.nb (.arr T2 none c l') b→blkOf u=some b:=fun b ⟨_,w,w1,w2⟩=>by
   rw [glast]at w1;cases w1;exact hasB_one (own_one r4) w2
 refine⟨ids.set i (.tuple (v::vs.set n.toNat (.slice none 0 0)).toArray)++[u],u,v,vs,us,q1,q2.out,r2,by rw [Den];exact⟨glast,own_one r4⟩,
   h.re2 (i:=i) (j:=σ.nb) (h1:=.nst T1 T2 c' c ls (some (n,σ.nb))) (h2:=.arr T2 none c l') hn0 (by rw [List.length_append,hsl];rfl) hden (fun k hk hkl=>?_) (fun j w hj h1=>get_app (g2 j w hj h1)) (fun r hb hl=>?_) ?_ ⟨u,uss,glast,r4,r5,trivial,r6⟩ (fun b f1 f2=>?_) (fun b hf=>?_) rfl rfl rfl rfl⟩
 ·rw [List.getElem?_append_left (by rw [List.length_set];exact hkl)]
  exact g1 k hk
 ·simp only [newN,setH,lk_cons]at hl;split at hl
  ·rename_i e;cases hl;exact .inr (.inl ⟨e.symm,rfl⟩)
  ·rename_i e;split at hl
   ·rename_i e2;cases hl;exact .inl ⟨e2.symm,rfl⟩
   ·rename_i e2;exact .inr (.inr ⟨Ne.symm e2,Ne.symm e,hl⟩)
 ·refine⟨v,vs.set n.toNat (.slice none 0 0),us,gi,q2.out,by simp [q2.len],q2.K1,q2.B,fun r y hr hne=>?_,fun k j e=>?_,fun r s w w' b hr hs hne hb hb'=>?_⟩
  ·obtain⟨w,w1,w2,w3⟩:=q2.row r y hr (fun _ _ e=>by cases e)
   exact⟨w,by rw [List.getElem?_set_ne (Ne.symm (hne n σ.nb rfl))];exact w1,w2,w3⟩
  ·cases e;exact⟨h0,hlt,by rw [List.getElem?_set_self hvl],u,r2,glast,own_one r4⟩
  ·obtain⟨_,hr⟩:=gu r w b hr hb;obtain⟨_,hs⟩:=gu s w' b hs hb';exact q2.sep r s w w' b hr hs hne hb hb'
 ·obtain⟨r,w,hw,hb⟩:=(fp_nst gi).1 f1;obtain⟨hne,hw⟩:=gu r w b hw hb;exact q2.sep r (n.toNat+1) w u b hw hu1 hne hb (fpu b f2)
 ·refine⟨i,_,.inl rfl,hi,?_⟩;rcases hf with hf|hf
  ·obtain⟨r,w,hw,hb⟩:=(fp_nst gi).1 hf;exact fpi r w b (gu r w b hw hb).2 hb
  ·exact fpi _ u b hu1 (fpu b hf)
end
end Go.SX
namespace Go.XK
open Go.RowKit
def putL (l:List Value) (o:Nat) (vs:List Value):List Value:=l.take o++vs++l.drop (o+vs.length)
theorem putL_get {l:List Value} {o:Nat} {vs:List Value} (h:o+vs.length≤l.length) (j:Nat):(putL l o vs)[j]?=if o≤j∧j<o+vs.length then vs[j-o]? else l[j]?:=by
 unfold putL
 by_cases h1:j<o
 ·rw [List.append_assoc,List.getElem?_append_left (by rw [List.length_take];omega),List.getElem?_take,if_pos h1,if_neg (by omega)]
 ·by_cases h2:j<o+vs.length
  ·rw [List.getElem?_append_left (by rw [List.length_append,List.length_take];omega),List.getElem?_append_right (by rw [List.length_take];omega),List.length_take,if_pos (by omega)]
   congr 1
   omega
  ·rw [List.getElem?_append_right (by rw [List.length_append,List.length_take];omega),List.getElem?_drop,List.length_append,List.length_take,if_neg (by omega)]
   congr 1
   omega
theorem putL_len {l:List Value} {o:Nat} {vs:List Value} (h:o+vs.length≤l.length):(putL l o vs).length=l.length:=by
 unfold putL;simp;omega
section
variable {P:Program} {env:List (Nat×Value)} {d:Option Tmp} {ty:TypeId} {pos:String} {af:Array Edge} {g:Option (Nat×Bool)}
theorem Stp.storeF {w:World} {T T':TypeId} {x y:Operand} {b o:Nat} {v:Value} {old:List Value} {K:Value→World→Prop} (hs:(P.info? T).map (·.size)=some v.cells.size) (hx:ev env x=some (.pointer (some ⟨b,o,none⟩))) (hy:ev env y=some v)
   (hr:Row w b T' old) (hl:o+v.cells.toList.length≤old.length) (h1:v.cells.toList.all (·.oneCell')=true) (h:∀ w',Upd b w w'→Row w' b T' (putL old o v.cells.toList)→K undef w'):Stp P env w ⟨d,.store T x y,ty,pos,af,g⟩ K:=fun a N ha=>by
 have hst:=run_storeCells_at P b o T' v.cells.toList 0 old.toArray w hr (by simpa using hl) (fun u hu=>List.all_eq_true.1 h1 u hu)
 cases hi:P.info? T with
 |none=>rw [hi]at hs;cases hs
 |some inf =>
   rw [hi]at hs;simp only [Option.map_some,Option.some.injEq]at hs
   have hrun:(storeVar T ⟨b,o,none⟩ v).run P w=.ok () (w.setRow b (putL old o v.cells.toList).toArray):=by
     simp only [storeVar,Sem.run_bind,sizeOf,typeInfo];simp only [Nat.add_zero]at hst;simp [hi,hs,hst,putL]
   simp only [execOp,ha.ev hx,ha.ev hy,Instr.storeAt,Instr.sureAddr,Sem.run_bind,Sem.run_pure,Result.andThen_ok,hrun];exact h _ (setRow_upd w b _) (by have:=setRow_heap w b old.toArray (putL old o v.cells.toList).toArray T' (0,0) hr;unfold Row;simpa using this)
theorem Stp.storeQ {w:World} {T:TypeId} {x y:Operand} {base:Nat} {e:TypeId} {size n c:Nat} {v u:Value} {xs:List Value} {K:Value→World→Prop} (hs:(P.info? T).map (·.size)=some u.cells.size) (h1:u.cells.toList.all (·.oneCell')=true)
   (hown:OwnQ w base e size v n xs) (hc:c+u.cells.toList.length≤xs.length) (hx:ev env x=some (.pointer (some ⟨blk v,ofs v+c,none⟩))) (hy:ev env y=some u) (hn0:0<xs.length)
   (h:∀ w',Upd (blk v) w w'→OwnQ w' base e size v n (putL xs c u.cells.toList)→K undef w'):Stp P env w ⟨d,.store T x y,ty,pos,af,g⟩ K:=fun a N ha=>by
 obtain⟨hl,h2⟩:=hown;rcases h2 with ⟨rfl,hn⟩|⟨gb,o,cap,cur,rfl,hg,hh,hnc,hcm,hcs,htake⟩
 ·rw [hn,Nat.zero_mul]at hl;omega
 ·simp only [blk,ofs]at hx h;have hle:n*size≤cap*size:=Nat.mul_le_mul_right _ hnc;have hfit:o+c+0+u.cells.toList.length≤cur.size:=by omega
  have hst:=run_storeCells_atG P gb (o+c) e u.cells.toList 0 cur w hh hfit (fun q hq=>List.all_eq_true.1 h1 q hq)
  simp only [Nat.add_zero]at hst hfit
  cases hi:P.info? T with
  |none=>rw [hi]at hs;cases hs
  |some inf =>
    rw [hi]at hs;simp only [Option.map_some,Option.some.injEq]at hs
    have hrun:(storeVar T ⟨gb,o+c,none⟩ u).run P w=.ok () (w.setRow gb (putL cur.toList (o+c) u.cells.toList).toArray):=by
      simp only [storeVar,Sem.run_bind,sizeOf,typeInfo];simp [hi,hs,hst,putL]
    simp only [execOp,ha.ev hx,ha.ev hy,Instr.storeAt,Instr.sureAddr,Sem.run_bind,Sem.run_pure,Result.andThen_ok,hrun];have hfl:o+c+u.cells.toList.length≤cur.toList.length:=by simpa using hfit
    refine h _ (setRow_upd w gb _) ⟨by rw [putL_len hc,hl],.inr ⟨gb,o,cap,_,rfl,hg,hh.setRow (by have:=putL_len hfl;simp only [List.size_toArray,this,Array.length_toList]),hnc,hcm,?_,?_⟩⟩
    ·have:=putL_len hfl;simp only [List.size_toArray,this];simpa using hcs
    ·apply List.ext_getElem?;intro j;rw [putL_get hc,← htake,List.getElem?_take,List.getElem?_take,List.getElem?_drop,List.getElem?_drop,List.toList_toArray,putL_get hfl]
     by_cases hj:j<n*size
     ·rw [if_pos hj,if_pos hj]
      by_cases hin:c≤j∧j<c+u.cells.toList.length
      ·rw [if_pos hin,if_pos (by omega)]
       congr 1
       omega
      ·rw [if_neg hin,if_neg (by omega)]
     ·rw [if_neg hj,if_neg hj,if_neg (by omega)]
end
section
variable {P:Program} {ops:Array Oper} {kd:Nat→Nat} {Kf:Act→World→Prop} {dl:List Deferred} {N f:Nat} {listed:Array Bool} {env:List (Nat×Value)} {wc:World}
theorem EA.three (i j m:Nat) (hr:Region.ready .any ops listed=[i,j,m]) (h1:Closed .any ops (listed.setIfInBounds i true)→EK dl N (xOp P ops kd i (AnyX P ops .any kd Kf f (listed.setIfInBounds i true))) env wc)
   (h2:Closed .any ops (listed.setIfInBounds j true)→EK dl N (xOp P ops kd j (AnyX P ops .any kd Kf f (listed.setIfInBounds j true))) env wc) (h3:Closed .any ops (listed.setIfInBounds m true)→EK dl N (xOp P ops kd m (AnyX P ops .any kd Kf f (listed.setIfInBounds m true))) env wc) :
   EA P ops kd Kf dl N (f+1) listed env wc:=by
 intro hcl a ha;refine AnyX_all hr (by simp) fun k hk=>?_
 have hk2:k=i∨k=j∨k=m:=by simpa using hk
 rcases hk2 with rfl|rfl|rfl
 ·exact h1 (hcl.set (by rw [hr];simp)) a ha
 ·exact h2 (hcl.set (by rw [hr];simp)) a ha
 ·exact h3 (hcl.set (by rw [hr];simp)) a ha
end
end Go.XK
namespace Go.SX
open Go.XK Go.RowKit
def Out (C:Cx) (K:St→Prop) (a:Act) (w:World):Prop:=∃ σ S ids,Sat C σ ⟨w,S⟩ ids a∧K σ
section
variable {E:En} {C:Cx} {σ:St} {m:Mm} {ids:List Value} {a:Act} {d:Option Tmp} {ty:TypeId} {pos:String} {af:Array Edge} {g:Option (Nat×Bool)} {K:St→Prop}
def StE (E:En) (C:Cx) (K:St→Prop) (a:Act) (w:World) (o:Oper):Prop:=stUpon E.P (fun v w'=>Ext w w'∧Out C K (a.put o.dst v) w') ((execOp a.eval o).run E.P w)
def StB (E:En) (C:Cx) (K:St→Prop) (a:Act) (w:World) (o:Oper):Prop:=stUpon E.P (fun v w'=>Out C K (a.put o.dst v) w') ((execOp a.eval o).run E.P w)
theorem StE.b {w:World} {o:Oper} (h:StE E C K a w o):StB E C K a w o:=stUpon_mono (fun _ _ h=>h.2) h
theorem stE_of {w:World} {o:Oper} (h:Stp E.P (envA a) w o (fun v w'=>Ext w w'∧Out C K (a.put o.dst v) w')):StE E C K a w o:=h a _ (okx_envA a)
theorem stB_of {w:World} {o:Oper} (h:Stp E.P (envA a) w o (fun v w'=>Out C K (a.put o.dst v) w')):StB E C K a w o:=h a _ (okx_envA a)
theorem Out.new {w':World} (h:Sat C σ m ids a) (he:Ext m.w w') (v:Value) (hb:HB) (hs:HSat ⟨w',m.S⟩ (ids++[v]) σ.nb hb) (hf:∀ b,Fp (ids++[v]) σ.nb hb b→m.w.heap.size≤b)
   (hd:dOK d C.N=true) (hfr:fresh σ d=true) {s:SV} (hv:Den ⟨w',m.S⟩ (ids++[v]) s v) (hK:K (setE (newN σ hb) d s)):Out C K (a.put d v) w' :=
 ⟨_,m.S,ids++[v],(h.newB he v hb hs hf).put hd hfr hv,hK⟩
theorem Out.upd {w':World} {b i:Nat} {hb hb':HB} (h:Sat C σ m ids a) (hi:lk σ.heap i=some hb) (hu:Upd b m.w w') (hfb:Fp ids i hb b) (hs:HSat ⟨w',m.S⟩ ids i hb') (hf:∀ b',Fp ids i hb' b'→b'=b)
   (hd:dOK d C.N=true) (hfr:fresh σ d=true) {s:SV} {v:Value} (hv:Den ⟨w',m.S⟩ ids s v) (hK:K (setE (setH σ i hb') d s)):Out C K (a.put d v) w' :=
 ⟨_,m.S,ids,(h.updB hi hu hfb hs hf).put hd hfr hv,hK⟩
theorem last_get (h:Sat C σ m ids a) (v:Value):(ids++[v])[σ.nb]?=some v:=by rw [← h.len];simp
theorem den_loc (h:Sat C σ m ids a) (w':World) (b:Nat):Den ⟨w',m.S⟩ (ids++[.pointer (some ⟨b,0,none⟩)]) (.loc σ.nb 0) (.pointer (some ⟨b,0,none⟩)):=by
 rw [Den];exact⟨b,last_get h _,rfl⟩
theorem den_osl (h:Sat C σ m ids a) (w':World) (v:Value) (h1:v.oneCell'=true):Den ⟨w',m.S⟩ (ids++[v]) (.osl σ.nb) v:=by
 rw [Den];exact⟨last_get h _,h1⟩
theorem fp_last (h:Sat C σ m ids a) {v:Value} {hb:HB} {b:Nat} (hf:Fp (ids++[v]) σ.nb hb b):hasB v b:=by
 obtain⟨_,u,h1,h2⟩:=hf;rw [last_get h v]at h1;cases h1;exact h2
theorem decN_ok {c:Nat}:∀ {n:Nat} {cs:List SV} {l:List (TabT c)} {us:List Value},decN c n cs=some l→DenL m ids cs us→∃ uss,us=uss.flatten∧Elts (KT c) (TabD c) m l uss∧l.length=n
 |0,[],l,us,h,hd=>by
   simp only [decN,Option.some.injEq]at h;subst h;exact⟨[],by rw [hd.nil];rfl,Elts.nil,rfl⟩
 |0,_::_,_,_,h,_=>by simp [decN]at h
 |n+1,cs,l,us,h,hd=>by
   simp only [decN,sp_eq]at h;split at h
   ·rename_i x l' h1 h2;cases h;have d1:=DC_ok c h1 (DenL.take (KT c) hd);obtain⟨uss,e,h3,h4⟩:=decN_ok h2 (DenL.drop (KT c) hd);have hl:(us.take (KT c)).length=KT c:=by rw [d1.len,TD_len]
    refine⟨us.take (KT c)::uss,by rw [List.flatten_cons,← e,List.take_append_drop],⟨by simp [h3.1],fun q hq=>?_,fun i y hy=>?_⟩,by simp [h4]⟩
    ·rcases List.mem_cons.1 hq with rfl|hq
     ·exact hl
     ·exact h3.2.1 q hq
    ·cases i with
     |zero=>simp at hy;subst hy;exact⟨_,rfl,d1⟩
     |succ i=>simp at hy ⊢;exact h3.2.2 i y hy
   ·cases h
theorem allOne_spec:∀ {cs:List SV} {us:List Value},allOne cs=true→DenL m ids cs us→us.all (·.oneCell')=true
 |[],us,_,h=>by rw [h.nil];rfl
 |s::r,us,h,hd=>by
   simp only [allOne]at h;split at h
   ·rename_i h1;rw [DenL]at hd;obtain⟨u,us',rfl,h2,h3⟩:=hd;simp only [List.all_cons,Bool.and_eq_true];exact⟨one_one h1 h2,allOne_spec h h3⟩
   ·cases h
theorem new_row (hS:Sat C σ m ids a) (hd:dOK d C.N=true) (hfr:fresh σ d=true) {T:TypeId} {cs:List SV} {us:List Value} (hc:DenL m ids cs us) (h:vcNew E σ d T cs K) {w':World} (he:Ext m.w w') (hr:Row w' m.w.heap.size T us) :
   Out C K (a.put d (.pointer (some ⟨m.w.heap.size,0,none⟩))) w':=by
 have hle:m.le ⟨w',m.S⟩:=Ext.le (S:=m.S) he fun b hb=>(hS.S b hb).1
 unfold vcNew at h;split at h
 ·rename_i n e k _ _ _ _ hT;split at h
  ·rename_i c hc';split at h
   ·rename_i l hl hk;obtain⟨uss,rfl,h1,h2⟩:=decN_ok hl hc;refine Out.new hS he _ (.vec T n c l) ⟨m.w.heap.size,uss,last_get hS _,hr,h1.le hle,h2⟩ (fun b hf=>?_) hd hfr (den_loc hS w' _) h
    have:=fp_last hS hf;cases this;exact Nat.le_refl _
   ·cases h
  ·cases h
 ·split at h
  ·refine Out.new hS he _ (.row T cs) ⟨m.w.heap.size,us,last_get hS _,hr,DenL.app _ _ (DenL.le hle _ hc)⟩ (fun b hf=>?_) hd hfr (den_loc hS w' _) h
   have:=fp_last hS hf;cases this;exact Nat.le_refl _
  ·cases h
 ·cases h
theorem store_row (hS:Sat C σ m ids a) (hd:dOK d C.N=true) (hfr:fresh σ d=true) {T T':TypeId} {k i o:Nat} {cs:List SV} {x y:Operand} {s:SV} {u:Value} (hk:sizeE E T=some k) (hi:lk σ.heap i=some (.row T' cs))
   (hl:len (cellsOf s)=k) (ho:o+k≤len cs) (h1:allOne (cellsOf s)=true) (hx:∃ b,ids[i]?=some (.pointer (some ⟨b,0,none⟩))∧XK.ev (envA a) x=some (.pointer (some ⟨b,o,none⟩))) (hy:XK.ev (envA a) y=some u) (hs:Den m ids s u)
   (hK:K (setE (setH σ i (.row T' (over cs o (cellsOf s)))) d .und)):StB E C K a m.w ⟨d,.store T x y,ty,pos,af,g⟩:=by
 obtain⟨b,hid,hx⟩:=hx;obtain⟨b',vs,h2,h3,h4⟩:=hS.heap.sat i _ hi;rw [hid]at h2;cases h2;obtain⟨z,bb,h5⟩:=sizeE_spec hk;obtain⟨inf,h6,_,h7,_⟩:=h5.ex;have hc:=cellsOf_ok h1 hs;have hlen:=hc.length;have hlc:=h4.length;rw [len_eq]at hl ho;refine stB_of (Stp.storeF (T':=T') (old:=vs) (by rw [h6,Option.map_some,h7];congr 1;rw [Array.length_toList]at hlen;omega) hx hy h3 (by omega) (allOne_spec h1 hc) fun w' hu hr=>?_)
 have hnS:¬ m.S b:=hS.heap.fpS i _ b hi ⟨rfl,_,hid,rfl⟩;have hle:m.le ⟨w',m.S⟩:=⟨fun k hk=>⟨hk,hu.block k fun e=>hnS (e▸hk)⟩,Nat.le_of_eq hu.size.symm⟩
 refine Out.upd (hb':=.row T' (over cs o (cellsOf s))) hS hi hu ⟨rfl,_,hid,rfl⟩ ⟨b,_,hid,hr,DenL.le hle _ (over_den h4 hc (by omega))⟩ (fun b' hf=>?_) hd hfr (by rw [Den]) hK
 obtain⟨_,v,h8,h9⟩:=hf;rw [hid]at h8;cases h8;cases h9;rfl
end
end Go.SX
namespace Go.SX
open Go.XK Go.RowKit
section
variable {E:En} {C:Cx} {σ:St} {m:Mm} {ids:List Value} {a:Act} {d:Option Tmp} {ty:TypeId} {pos:String} {af:Array Edge} {g:Option (Nat×Bool)} {K:St→Prop}
theorem Sat.repl {w':World} {j:Nat} {hb:HB} (h:Sat C σ m ids a) (hj:lk σ.heap j=some hb) (hm:Mod (fun b=>Fp ids j hb b) m.w w') (v:Value) (hb':HB) (hs:HSat ⟨w',m.S⟩ (ids++[v]) σ.nb hb')
   (hf:∀ b,Fp (ids++[v]) σ.nb hb' b→Fp ids j hb b∨m.w.heap.size≤b):Sat C (newN (setH σ j .gone) hb') ⟨w',m.S⟩ (ids++[v]) a:=by
 have hjn:j<ids.length∨∀ b,¬ Fp ids j hb b:=by
   by_cases hl:j<ids.length
   ·exact .inl hl
   ·exact .inr fun b ⟨_,v,h1,_⟩=>hl (List.getElem?_eq_some_iff.1 h1).1
 have hnS:∀ b,Fp ids j hb b→¬ m.S b:=fun b hb0=>h.heap.fpS j hb b hj hb0
 have hle:m.le ⟨w',m.S⟩:=⟨fun k hk=>⟨hk,hm.block k (h.S k hk).1 fun e=>hnS k e hk⟩,hm.size⟩
 have old:∀ i hb0,lk σ.heap i=some hb0→i≠j→HSat ⟨w',m.S⟩ (ids++[v]) i hb0:=fun i hb0 hi hne=>(((h.heap.sat i hb0 hi).le hle fun b hf0=>hm.block b (fp_lt (h.heap.sat i hb0 hi) hf0) fun e=>h.heap.sep i hb0 j hb hi hj hne b hf0 e)).app [v]
 have oldF:∀ i hb0 b,lk σ.heap i=some hb0→Fp (ids++[v]) i hb0 b→Fp ids i hb0 b:=fun i hb0 b hi hf0=>fp_app (h.heap.sat i hb0 hi) hf0
 have oldL:∀ i hb0 b,lk σ.heap i=some hb0→Fp ids i hb0 b→b<m.w.heap.size:=fun i hb0 b hi hf0=>fp_lt (h.heap.sat i hb0 hi) hf0
 have cases3:∀ i hb0,lk (newN (setH σ j .gone) hb').heap i=some hb0→(i=σ.nb∧hb0=hb')∨(i=j∧hb0=.gone)∨(i≠j∧lk σ.heap i=some hb0):=by
   intro i hb0 hi;simp only [newN,setH,lk_cons]at hi;split at hi
   ·rename_i e;cases hi;exact .inl ⟨e.symm,rfl⟩
   ·split at hi
    ·rename_i e;cases hi;exact .inr (.inl ⟨e.symm,rfl⟩)
    ·rename_i e;exact .inr (.inr ⟨Ne.symm e,hi⟩)
 have goneF:∀ {i b},¬ Fp (ids++[v]) i HB.gone b:=fun⟨h,_⟩=>by cases h
 have newOld:∀ i hb0 b,i≠j→lk σ.heap i=some hb0→Fp (ids++[v]) σ.nb hb' b→¬ Fp (ids++[v]) i hb0 b:=fun i hb0 b hne hi f1 f2=>by
   have q:=oldF i hb0 b hi f2;rcases hf b f1 with h1|h1
   ·exact h.heap.sep i hb0 j hb hi hj hne b q h1
   ·have:=oldL i hb0 b hi q;omega
 refine⟨⟨by simp [newN,setH,h.len],⟨fun i hb0 hi=>?_,fun i hb0 k hb1 hi hk hne b f1 f2=>?_,fun i hb0 b hi f1 f2=>?_⟩,fun i hb0 b hi f1=>?_,h.S0,fun b hb0=>⟨Nat.lt_of_lt_of_le (h.S b hb0).1 hm.size,(h.S b hb0).2⟩,?_,h.glob.le hle,h.n0,fun i hi=>?_⟩,((h.toSatF.le hle).app [v]).of rfl rfl rfl⟩
 ·rcases cases3 i hb0 hi with ⟨rfl,rfl⟩|⟨rfl,rfl⟩|⟨hne,hi2⟩
  ·exact hs
  ·trivial
  ·exact old i hb0 hi2 hne
 ·rcases cases3 i hb0 hi with ⟨rfl,rfl⟩|⟨rfl,rfl⟩|⟨hn1,hi2⟩
  ·rcases cases3 k hb1 hk with ⟨rfl,rfl⟩|⟨rfl,rfl⟩|⟨hn2,hk2⟩
   ·exact hne rfl
   ·exact goneF f2
   ·exact newOld k hb1 b hn2 hk2 f1 f2
  ·exact goneF f1
  ·rcases cases3 k hb1 hk with ⟨rfl,rfl⟩|⟨rfl,rfl⟩|⟨hn2,hk2⟩
   ·exact newOld i hb0 b hn1 hi2 f2 f1
   ·exact goneF f2
   ·exact h.heap.sep i hb0 k hb1 hi2 hk2 hne b (oldF i hb0 b hi2 f1) (oldF k hb1 b hk2 f2)
 ·rcases cases3 i hb0 hi with ⟨rfl,rfl⟩|⟨rfl,rfl⟩|⟨hn1,hi2⟩
  ·rcases hf b f1 with h1|h1
   ·exact hnS b h1 f2
   ·have:=(h.S b f2).1;omega
  ·exact goneF f1
  ·exact h.heap.fpS i hb0 b hi2 (oldF i hb0 b hi2 f1) f2
 ·rcases cases3 i hb0 hi with ⟨rfl,rfl⟩|⟨rfl,rfl⟩|⟨hn1,hi2⟩
  ·rcases hf b f1 with h1|h1
   ·exact h.low j hb b hj h1
   ·have:=h.mod.size;exact .inr (by omega)
  ·exact absurd f1 goneF
  ·exact h.low i hb0 b hi2 (oldF i hb0 b hi2 f1)
 ·refine⟨hm.os.trans h.mod.os,hm.tape.trans h.mod.tape,hm.output.trans h.mod.output,Nat.le_trans h.mod.size hm.size,fun k hk hn=>(hm.block k (Nat.lt_of_lt_of_le hk h.mod.size) fun e=>?_).trans (h.mod.block k hk hn)⟩
  rcases h.low j hb k hj e with h1|h1
  ·exact hn h1
  ·omega
 ·have:ids[i]?=C.ids0[i]?:=h.pre i hi;rw [← this]
  have hlt:i<ids.length:=by
    by_cases hl:i<ids.length
    ·exact hl
    ·rw [List.getElem?_eq_none (by omega)]at this
     have:=List.getElem?_eq_none_iff.1 this.symm;have:=h.n0;simp only [newN,setH]at hi;omega
  rw [List.getElem?_append_left hlt]
theorem fp_ptr {i:Nat} {hb hb':HB} {b c:Nat} (h:ids[i]?=some (.pointer (some ⟨b,0,none⟩))) (hf:Fp ids i hb' c):c=b:=by
 obtain⟨_,v,h1,h2⟩:=hf;rw [h]at h1;cases h1;cases h2;rfl
theorem le_upd (hS:Sat C σ m ids a) {w':World} {b i:Nat} {hb:HB} (hi:lk σ.heap i=some hb) (hf:Fp ids i hb b) (hu:Upd b m.w w'):m.le ⟨w',m.S⟩ :=
 have hnS:¬ m.S b:=hS.heap.fpS i hb b hi hf
 ⟨fun k hk=>⟨hk,hu.block k fun e=>hnS (e▸hk)⟩,Nat.le_of_eq hu.size.symm⟩
theorem flatten_set {K:Nat}:∀ {uss:List (List Value)} {k:Nat} {us vs:List Value} {o:Nat},(∀ us∈uss,us.length=K)→uss[k]?=some us→o+vs.length≤K→(uss.set k (overV us o vs)).flatten=XK.putL uss.flatten (k*K+o) vs
 |[],k,_,_,_,_,h,_=>by simp at h
 |c::r,0,us,vs,o,hk,h,ho=>by
   simp only [List.getElem?_cons_zero,Option.some.injEq]at h;subst h;have hc:=hk c (List.mem_cons_self ..);simp only [List.set_cons_zero,List.flatten_cons,XK.putL,overV,Nat.zero_mul,Nat.zero_add];rw [List.take_append_of_le_length (by omega),List.drop_append_of_le_length (by omega)]
   simp
 |c::r,k+1,us,vs,o,hk,h,ho=>by
   have hc:=hk c (List.mem_cons_self ..);have ih:=flatten_set (K:=K) (uss:=r) (k:=k) (us:=us) (vs:=vs) (o:=o) (fun us hu=>hk us (List.mem_cons_of_mem _ hu)) (by simpa using h) ho
   simp only [List.set_cons_succ,List.flatten_cons,ih,XK.putL]
   have e1:(c++r.flatten).take ((k+1)*K+o)=c++r.flatten.take (k*K+o):=by
     rw [List.take_append,List.take_of_length_le (by rw [hc,Nat.add_mul];omega),hc,show(k+1)*K+o-K=k*K+o by rw [Nat.add_mul];omega]
   have e2:(c++r.flatten).drop ((k+1)*K+o+vs.length)=r.flatten.drop (k*K+o+vs.length):=by
     rw [List.drop_append,List.drop_eq_nil_of_le (by rw [hc,Nat.add_mul];omega),hc,List.nil_append,show(k+1)*K+o+vs.length-K=k*K+o+vs.length by rw [Nat.add_mul];omega]
   rw [e1,e2];simp
theorem Elts.set {c:Nat} {l:List (TabT c)} {uss:List (List Value)} (h:Elts (KT c) (TabD c) m l uss) {k:Nat} {us:List Value} {y:TabT c} (hk:k<l.length) (hy:DL (TabD c y) m us):Elts (KT c) (TabD c) m (l.set k y) (uss.set k us):=by
 refine⟨by simp [h.1],fun q hq=>?_,fun i x hx=>?_⟩
 ·rcases List.mem_or_eq_of_mem_set hq with h1|h1
  ·exact h.2.1 q h1
  ·rw [h1,hy.len,TD_len]
 ·rw [List.getElem?_set]at hx ⊢;split at hx
  ·rename_i e;subst e;cases hx;rw [if_pos rfl,if_pos (by rw [h.1];exact hk)]
   exact⟨us,rfl,hy⟩
  ·rename_i e;rw [if_neg e];exact h.2.2 i x hx
theorem store_elem (hS:Sat C σ m ids a) (hd:dOK d C.N=true) (hfr:fresh σ d=true) {T T':TypeId} {z:Option Bool} {k i o c:Nat} {n:Int} {l:List (TabT c)} {cs:List SV} {x y:Operand} {s:SV} {u:Value} {v:TabT c} (hk:sizeE E T=some k)
   (hi:lk σ.heap i=some (.arr T' z c l)) (hl:len (cellsOf s)=k) (ho:o+k≤KT c) (hk1:1≤k) (h1:allOne (cellsOf s)=true) (hcs:ES c (l.getD n.toNat (TabZ c))=some cs) (hv:DC c (over cs o (cellsOf s))=some v)
   (hx:∃ b q nn cp,ids[i]?=some (.slice (some ⟨b,q,none⟩) nn cp)∧0≤n∧n<nn∧XK.ev (envA a) x=some (.pointer (some ⟨b,q+n.toNat * KT c+o,none⟩))) (hy:XK.ev (envA a) y=some u) (hs:Den m ids s u)
   (hK:K (setE (setH σ i (.arr T' z c (l.set n.toNat v))) d .und)):StB E C K a m.w ⟨d,.store T x y,ty,pos,af,g⟩:=by
 obtain⟨b,q,nn,cp,hid,hn0,hn1,hx⟩:=hx;obtain⟨v',uss,h2,h3,h4,h5,h6⟩:=hS.heap.sat i _ hi;rw [hid]at h2;cases h2;obtain⟨_,_,e,_⟩:=h3.reads.len;injection e with _ enn _
 have hlt:n.toNat<l.length:=by omega
 obtain⟨zz,bb,h7⟩:=sizeE_spec hk;obtain⟨inf,h8,_,h9,_⟩:=h7.ex;have hc:=cellsOf_ok h1 hs;have hlen:=hc.length;rw [len_eq]at hl;rw [Array.length_toList]at hlen;have hfl:=h4.flat
 have hle0:n.toNat * KT c+KT c≤l.length*KT c:=by
   have:=Nat.mul_le_mul_right (KT c) hlt;rw [Nat.succ_mul]at this;exact this
 have hfb:Fp ids i (.arr T' z c l) b:=⟨rfl,_,hid,rfl⟩;refine stB_of (Stp.storeQ (v:=.slice (some ⟨b,q,none⟩) nn cp) (c:=n.toNat * KT c+o) (by rw [h8,Option.map_some,h9];congr 1;omega) (allOne_spec h1 hc) h3 (by rw [hfl];simp;omega) (by simp only [blk,ofs];rw [← Nat.add_assoc];exact hx) hy (by rw [hfl];omega) fun w' hu hr=>?_)
 have hle:=le_upd hS hi hfb hu;obtain⟨us,hus,hdl⟩:=h4.2.2 n.toNat l[n.toNat] (List.getElem?_eq_getElem hlt);have hget:l.getD n.toNat (TabZ c)=l[n.toNat]:=by rw [List.getD_eq_getElem?_getD,List.getElem?_eq_getElem hlt];rfl
 rw [hget]at hcs;have hcells:=(ES_iff (ids:=ids) c _ hcs).1 hdl;have hul:us.length=KT c:=by rw [hdl.len,TD_len]
 have hnew:=DC_ok c hv (over_den hcells hc (by have:=hcells.length;omega))
 refine Out.upd (hb':=.arr T' z c (l.set n.toNat v)) hS hi hu hfb ⟨_,uss.set n.toNat (overV us o u.cells.toList),hid,?_,(h4.set hlt hnew).le hle,h5,by rw [List.length_set];exact h6⟩ (fun b' hf=>?_) hd hfr (by rw [Den]) hK
 ·rw [flatten_set h4.2.1 hus (by simp;omega),List.length_set]
  exact hr
 ·obtain⟨_,v',h10,h11⟩:=hf;rw [hid]at h10;cases h10;cases h11;rfl
end
end Go.SX
