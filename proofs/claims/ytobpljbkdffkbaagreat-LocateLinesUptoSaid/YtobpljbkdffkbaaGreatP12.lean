/- A part of the proof (texts SS, ST, SU, GK). -/
import Derived.Test.YtobpljbkdffkbaaGreatP11
set_option linter.all false
set_option maxRecDepth 100000
namespace Go.SX
open Go.XK Go.RowKit
section
variable {E:En} {C:Cx} {σ:St} {m:Mm} {ids:List Value} {a:Act} {π:Path} {d:Option Tmp} {K:St→Prop} {DB:Db E}
theorem holds_app {π ρ:Path}:Holds a (π++ρ)↔Holds a π∧Holds a ρ:=⟨fun h=>⟨fun g hg=>h g (List.mem_append_left _ hg),fun g hg=>h g (List.mem_append_right _ hg)⟩,fun h g hg=>(List.mem_append.1 hg).elim (h.1 g) (h.2 g)⟩
theorem slot_b (hS:SatF C σ m ids a) (hh:Holds a π) {t:Nat} {q:Bool} (h:σ.slot π t=some (.b q)):a.tmps.getD t undef=.bool q:=by
 have:=(hS.slot hh h).2;rw [Den]at this;exact this
theorem undA_elim (hS:SatF C σ m ids a) {p:Prop}:∀ {r pre:Path} {c:Prop},undA σ pre r c p→c→Holds a pre→Holds a r→p
 |[],_,_,h,hc,_,_=>h hc
 |(t,b)::r,pre,c,h,hc,h1,h2=>by
   rw [undA]at h;split at h
   ·rename_i q hq;have e1:=slot_b hS h1 hq;have e2:=h2 (t,b) (List.mem_cons_self ..);simp only at e2;rw [e1]at e2;have e2:q=b:=Value.bool.inj e2;exact undA_elim hS h ⟨hc,e2⟩ (holds_snoc h1 (by rw [e1,e2])) fun g hg=>h2 g (List.mem_cons_of_mem _ hg)
   ·exact h hc
theorem und_elim (hS:SatF C σ m ids a) {p:Prop} {pre r:Path} (h:und σ pre r p) (h1:Holds a pre) (h2:Holds a r):p:=by
 cases r with
 |nil=>exact h
 |cons x r =>
   obtain⟨t,b⟩:=x;simp only [und]at h;split at h
   ·rename_i q hq;have e1:=slot_b hS h1 hq;have e2:=h2 (t,b) (List.mem_cons_self ..);simp only at e2;rw [e1]at e2;have e2:q=b:=Value.bool.inj e2;exact undA_elim hS h e2 (holds_snoc h1 (by rw [e1,e2])) fun g hg=>h2 g (List.mem_cons_of_mem _ hg)
   ·exact h
theorem undA_intro (hS:SatF C σ m ids a) {p:Prop}:∀ {r pre:Path} {c:Prop},pok σ pre r=true→(c→Holds a pre)→(c→Holds a r→p)→undA σ pre r c p
 |[],_,_,_,_,h=>fun hc=>h hc holds_nil
 |(t,b)::r,pre,c,hp,h1,h=>by
   rw [pok]at hp;split at hp
   ·rename_i q hq;rw [undA,hq];have e1:c∧q=b→a.tmps.getD t undef=.bool b:=fun⟨hc,e⟩=>by rw [slot_b hS (h1 hc) hq,e]
    exact undA_intro hS hp (fun hc=>holds_snoc (h1 hc.1) (e1 hc)) fun hc hr=>h hc.1 fun g hg=>by
      rcases List.mem_cons.1 hg with rfl|hg
      ·exact e1 hc
      ·exact hr g hg
   ·cases hp
theorem und_intro (hS:SatF C σ m ids a) {p:Prop} {pre r:Path} (hp:pok σ pre r=true) (h1:Holds a pre) (h:Holds a r→p):und σ pre r p:=by
 cases r with
 |nil=>exact h holds_nil
 |cons x r =>
   obtain⟨t,b⟩:=x;rw [pok]at hp;split at hp
   ·rename_i q hq;simp only [und,hq];have e1:q=b→a.tmps.getD t undef=.bool b:=fun e=>by rw [slot_b hS h1 hq,e]
    exact undA_intro hS hp (fun hc=>holds_snoc h1 (e1 hc)) fun hc hr=>h fun g hg=>by
      rcases List.mem_cons.1 hg with rfl|hg
      ·exact e1 hc
      ·exact hr g hg
   ·cases hp
theorem vcPR_ok (hS:SatF C σ m ids a) (hp:pok σ [] π=true) {r:PR} {Kp Q:SV→Prop} (h:vcPR σ π r Kp) (hr:Holds a π→PRok r Q):∃ s,Kp s∧(Holds a π→Q s):=by
 rw [vcPR_iff]at h
 cases r with
 |ok s=>exact⟨s,h,hr⟩
 |ob p s=>exact⟨s,h.2,fun hh=>hr hh (und_elim hS h.1.ok holds_nil hh)⟩
 |hy p s=>exact⟨s,h (und_intro hS hp holds_nil fun hh=>(hr hh).1),fun hh=>(hr hh).2⟩
 |hb p q s =>
   have h':=h (und_intro hS hp holds_nil fun hh=>(hr hh).1)
   exact⟨s,h'.2,fun hh=>(hr hh).2 (und_elim hS h'.1.ok holds_nil hh)⟩
 |ar p x =>
   obtain⟨v,h1,h2⟩:=h (und_intro hS hp holds_nil fun hh=>(hr hh).1)
   refine⟨.i v,h2,fun hh=>?_⟩
   rw [← und_elim hS h1 holds_nil hh];exact(hr hh).2
 |ap p q x =>
   obtain⟨h0,v,h1,h2⟩:=h (und_intro hS hp holds_nil fun hh=>(hr hh).1)
   refine⟨.i v,h2,fun hh=>?_⟩
   rw [← und_elim hS h1 holds_nil hh];exact(hr hh).2 (und_elim hS h0.ok holds_nil hh)
 |no=>exact h.elim
theorem xk_of {o:Oper} {k:Nat} {σ':St} {s:SV} {K1:St→Prop} (hS:Sat C σ' m ids a) (h:KRes E C σ' m ids a o s k) (hK:∀ S w ids v,Sat C σ' ⟨w,S⟩ ids a→Den ⟨w,S⟩ ids s v→Out C K1 (a.put o.dst v) w) :
   xKind E.P o (fun a w=>Out C K1 a w) a m.w k:=by
 match k with
 |0 =>
   obtain⟨v,h1,h2⟩:=h;exact⟨v,h2,hK m.S m.w ids v hS h1⟩
 |1 =>
   obtain⟨v,h1,h2⟩:=h;exact⟨v,h2,hK m.S m.w ids v hS h1⟩
 |2=>exact fun w hw=>stUpon_mono (fun v w' ⟨q1,S',q2,q3⟩=>⟨q1,hK S' w' ids v q2 q3⟩) (h w hw)
 |k+3=>exact fun w hw=>stUpon_mono (fun v w' ⟨q1,S',q2,q3⟩=>hK S' w' ids v q2 q3) (h w hw)
theorem frz_same {ns:List Nat}:∀ {σ:St},(frz σ ns).gen=σ.gen∧(frz σ ns).kn=σ.kn∧(frz σ ns).env=σ.env∧(frz σ ns).nb=σ.nb∧(frz σ ns).n0=σ.n0:=by
 induction ns with
 |nil=>exact⟨rfl,rfl,rfl,rfl,rfl⟩
 |cons i r ih =>
   intro σ;rw [frz];split
   ·exact ih (σ:=setH σ i _)
   ·exact ih (σ:=setH σ i _)
   ·exact ih (σ:=setH σ i _)
   ·exact ih
theorem prOf_same {k:Nat} {o:Op} {r:PR} {σ':St} (h:prOf E DB σ π k o=(r,σ')):σ'.gen=σ.gen∧σ'.kn=σ.kn:=by
 unfold prOf at h;split at h
 ·split at h
  ·split at h
   ·cases h;exact⟨rfl,rfl⟩
   ·split at h
    ·cases h;exact⟨frz_same.1,frz_same.2.1⟩
    ·cases h;exact⟨rfl,rfl⟩
  ·split at h<;>(cases h;exact⟨rfl,rfl⟩)
 ·split at h<;>(cases h;exact⟨rfl,rfl⟩)
theorem fresh_same {σ':St} (h:σ'.gen=σ.gen∧σ'.kn=σ.kn) (hf:fresh σ d=true):fresh σ' d=true:=by
 unfold fresh at hf ⊢;rw [h.1,h.2];exact hf
theorem vcU_ok (hS:Sat C σ m ids a) (hGE:C.G=E.G) {k:Nat} {o:Oper} (hd:dOK o.dst C.N=true) (hfr:fresh σ o.dst=true) {K1:St→Prop} (h:vcU E DB k o σ K1):xKind E.P o (fun a w=>Out C K1 a w) a m.w k:=by
 unfold vcU at h;split at h
 ·split at h
  ·rename_i hk
   match k,hk with
   |2,hk =>
     intro w hw;have:=(vcL_ok DB.ok (d:=o.dst) (ty:=o.type) (pos:=o.pos) (af:=o.after) (g:=o.guard) (hS.ext hw) hGE hd hfr h).2 rfl hk;exact stUpon_mono (fun _ _ q=>q) this
   |k+3,hk =>
     intro w hw;have:=(vcL_ok DB.ok (d:=o.dst) (ty:=o.type) (pos:=o.pos) (af:=o.after) (g:=o.guard) (hS.ext hw) hGE hd hfr h).1;exact stUpon_mono (fun _ _ q=>q) this
  ·cases h
 ·rename_i r σ' _ hpr;obtain⟨S',h1,h2,h3⟩:=prOf_ok hS hGE hpr;obtain⟨s,h4,h5⟩:=vcPR_ok hS.toSatF rfl h h3;exact xk_of (m:=⟨m.w,S'⟩) h2 (h5 holds_nil) fun S w ids v q1 q2=>⟨_,S,ids,q1.put hd (fresh_same (prOf_same hpr) hfr) q2,h4⟩
theorem yield_iff {ops:Array Oper} {j t:Nat} {oj:Oper} (hj:ops[j]?=some oj) (ht:oj.dst=some t) {o:Oper} {b:Bool} (hg:o.guard=some (j,b)):Region.wanted o (yielded ops a.tmps)=true↔a.tmps.getD t undef=.bool b:=by
 have hy:yielded ops a.tmps j=match a.tmps[t]? with
     |some (.bool c)=>some c
     |_=>none:=by
   unfold yielded;rw [hj,Option.bind_some,ht,Option.bind_some]
   cases a.tmps[t]? with
   |none=>rfl
   |some v=>cases v<;>rfl
 simp only [Region.wanted,hg];rw [hy,Array.getD_eq_getD_getElem?]
 cases hq:a.tmps[t]? with
 |none=>simp [undef]
 |some v =>
   cases v<;>simp
theorem guard_iff (hS:SatF C σ m ids a) {ops:Array Oper} {j:Nat} {b:Bool} {π0:Path} {o:Oper} (hg:o.guard=some (j,b)) (h:gpath ops σ j b=some π0):Region.wanted o (yielded ops a.tmps)=true↔Holds a π0:=by
 unfold gpath at h;split at h
 ·rename_i t _ _ _ _ _ hj;rw [yield_iff hj rfl hg]
  have one:Holds a [(t,b)]↔a.tmps.getD t undef=.bool b:=⟨fun h=>h (t,b) (List.mem_cons_self ..),fun h g hg=>by
    have:g=(t,b):=by simpa using hg
    subst this
    exact h⟩
  split at h
  ·rename_i ρ x hl;cases h;rw [holds_app,one];refine⟨fun h=>⟨?_,h⟩,fun h=>h.2⟩
   by_cases hh:Holds a ρ
   ·exact hh
   ·have:=(hS.gen t ρ x hl).2.2 hh;rw [this]at h;simp [undef]at h
  ·cases h;exact one.symm
 ·cases h
def OpOK (E:En) (C:Cx) (K1:St→Prop) (ops:Array Oper) (k:Nat) (o:Oper) (a:Act) (w:World):Prop :=
 if Region.wanted o (yielded ops a.tmps)then xKind E.P o (fun a w=>Out C K1 a w) a w k else Out C K1 (a.put o.dst undef) w
theorem den_und:Den m ids SV.und undef:=by rw [Den]
theorem kn_add (hS:Sat C σ m ids a) {t:Nat} {q b:Bool} (h:σ.slot [] t=some (.b q)) (e:q=b):Sat C { σ with kn:=(t,b)::σ.kn } m ids a:=by
 refine⟨hS.toSatH.of rfl rfl rfl,hS.size,hS.defers,hS.env,hS.gen,fun s c hs=>?_⟩
 simp only [lk_cons]at hs;split at hs
 ·rename_i e2;cases hs;subst e2;rw [slot_b hS.toSatF holds_nil h,e]
 ·exact hS.kn s c hs
theorem vcG_ok {k:Nat} {o:Oper} {π0:Path} {ops:Array Oper} (hGE:C.G=E.G) (hd:dOK o.dst C.N=true) (hw:Region.wanted o (yielded ops a.tmps)=true↔Holds a π0) {K1:St→Prop}:∀ (n:Nat) {σ:St},Sat C σ m ids a→vcG E DB k o π0 n σ K1→OpOK E C K1 ops k o a m.w
 |0,_,_,h=>h.elim
 |n+1,σ,hS,h=>by
   rw [vcG]at h;split at h
   ·cases h
   ·rename_i hfr;have hr:=red_spec (a:=a) (σ:=σ) π0 hS.kn;split at h
    ·rename_i hq;rw [hq]at hr;unfold OpOK;rw [if_neg (fun e=>hr (hw.1 e))]
     exact⟨_,m.S,ids,hS.put hd hfr den_und,h⟩
    ·rename_i hq;rw [hq]at hr;unfold OpOK;rw [if_pos (hw.2 (hr.2 holds_nil))];exact vcU_ok hS hGE hd hfr h
    ·rename_i t b r hq;split at h
     ·rename_i q hs
      cases q with
      |true=>exact vcG_ok hGE hd hw n (kn_add hS hs rfl) (h.1 rfl)
      |false=>exact vcG_ok hGE hd hw n (kn_add hS hs rfl) (h.2 rfl)
     ·cases h
theorem vcOp_ok {k:Nat} {o:Oper} {ops:Array Oper} (hS:Sat C σ m ids a) (hGE:C.G=E.G) {K1:St→Prop} (h:vcOp E DB C.N ops k o σ K1):OpOK E C K1 ops k o a m.w:=by
 unfold vcOp at h;split at h
 ·cases h
 ·rename_i hfd;rw [Bool.and_eq_true]at hfd;obtain⟨hfr,hd⟩:=hfd;split at h
  ·rename_i hg;unfold OpOK;rw [if_pos (by simp [Region.wanted,hg])]
   exact vcU_ok hS hGE hd hfr h
  ·rename_i j b hg;split at h
   ·cases h
   ·rename_i π0 hp;have hw:=guard_iff hS.toSatF hg hp;have hr:=red_spec (a:=a) (σ:=σ) π0 hS.kn;split at h
    ·rename_i hq;rw [hq]at hr;unfold OpOK;rw [if_neg (fun e=>hr (hw.1 e))]
     exact⟨_,m.S,ids,hS.put hd hfr den_und,h⟩
    ·rename_i hq;rw [hq]at hr;unfold OpOK;rw [if_pos (hw.2 (hr.2 holds_nil))];exact vcU_ok hS hGE hd hfr h
    ·rename_i π _ hq;rw [hq]at hr;have hw:=hw.trans hr;split at h
     ·rename_i hpk hnp;split at h
      ·exact vcG_ok hGE hd (guard_iff hS.toSatF hg hp) _ hS h
      ·rename_i r σ' _ hpr;obtain⟨S',h1,h2,h3⟩:=prOf_ok hS hGE hpr;obtain⟨s,h4,h5⟩:=vcPR_ok hS.toSatF hpk h h3
       have hn:∀ t,o.dst=some t→∀ g∈π,g.1≠t:=fun t ht=>by
         rw [ht]at hnp;exact noPath_spec hnp
       have hfr':=fresh_same (prOf_same hpr) hfr;unfold OpOK
       by_cases hh:Holds a π
       ·rw [if_pos (hw.2 hh)];exact xk_of (m:=⟨m.w,S'⟩) h2 (h5 hh) fun S w ids v q1 q2=>⟨_,S,ids,q1.putG hd hfr' hn (fun _=>q2) (fun hn=>absurd hh hn),h4⟩
       ·rw [if_neg (fun e=>hh (hw.1 e))]
        exact⟨_,S',ids,h2.putG (s:=s) hd hfr' hn (fun h=>absurd h hh) (fun _=>rfl),h4⟩
     ·cases h
theorem vcOps_ok {ops:Array Oper} (hGE:C.G=E.G) {kd:Nat→Nat} {K1:St→Prop}:∀ (l:List Nat) {σ:St} {m:Mm} {ids:List Value} {a:Act},Sat C σ m ids a→vcOps E DB C.N ops kd l σ K1→wpX E.P ops kd (fun a w=>Out C K1 a w) l a m.w
 |[],σ,m,ids,a,hS,h=>fun w hw=>by
   rw [vcOps,thenS_eq]at h;refine⟨_,m.S,ids,?_,h⟩;have h1:=hS.ext hw;exact⟨h1.toSatH.of rfl rfl rfl,h1.size,h1.defers,h1.env,fun t π s hl=>(by cases hl),fun s b hl=>(by cases hl)⟩
 |i::l,σ,m,ids,a,hS,h=>by
   rw [vcOps]at h;rw [wpX];split at h
   ·rename_i o ho;have h1:=vcOp_ok hS hGE h
    have h2:xOp E.P ops kd i (fun a w=>Out C (fun σ'=>thenS σ' fun σ'=>vcOps E DB C.N ops kd l σ' K1) a w) a m.w:=by
      unfold xOp;simp only [ho];unfold OpOK at h1;exact h1
    exact xOp_mono (fun a w ⟨σ',S,ids',q1,q2⟩=>vcOps_ok hGE l (m:=⟨w,S⟩) q1 (by have q3:thenS σ' (fun σ'=>vcOps E DB C.N ops kd l σ' K1):=q2;rw [thenS_eq]at q3;exact q3)) h2
   ·cases h
theorem vcP1_ok {ops:Array Oper} (hGE:C.G=E.G) {kd:Nat→Nat} {i:Nat} {K1:St→Prop} (hS:Sat C σ m ids a) (h:vcP1 E DB C.N ops kd i σ K1):xOp E.P ops kd i (fun a w=>Out C K1 a w) a m.w:=by
 unfold vcP1 at h;split at h
 ·rename_i o ho;have h1:=vcOp_ok hS hGE h
  have h2:xOp E.P ops kd i (fun a w=>Out C (fun σ'=>thenS σ' K1) a w) a m.w:=by
    unfold xOp;simp only [ho];unfold OpOK at h1;exact h1
  exact xOp_mono (fun a w ⟨σ',S,ids',q1,q2⟩=>⟨σ',S,ids',q1,by have q3:thenS σ' K1:=q2;rw [thenS_eq]at q3;exact q3⟩) h2
 ·cases h
theorem vcP_ok {ops:Array Oper} (hGE:C.G=E.G) {kd:Nat→Nat} {K1:St→Prop}:∀ (p:Plan) (f:Nat) {listed:Array Bool} {σ:St} {m:Mm} {ids:List Value} {a:Act},Closed .any ops listed→Sat C σ m ids a→vcP E DB C.N ops kd p f listed σ K1 →
   AnyX E.P ops .any kd (fun a w=>Out C K1 a w) f listed a m.w:=by
 intro p
 induction p with
 |done =>
   intro f listed σ m ids a hcl hS h;rw [vcP,thenS_eq]at h;obtain⟨h1,h2⟩:=h;have hr:Region.ready .any ops listed=[]:=List.isEmpty_iff.1 h1
   have fin:∀ w,Ext m.w w→Out C K1 a w:=fun w hw=>by
     have h1:=hS.ext hw;refine⟨{ σ with gen:=[],kn:=[] },m.S,ids,?_,h2⟩
     exact⟨h1.toSatH.of rfl rfl rfl,h1.size,h1.defers,h1.env,fun t π s hl=>(by cases hl),fun s b hl=>(by cases hl)⟩
   cases f with
   |zero=>exact⟨hr,fin⟩
   |succ f=>exact⟨fun _=>fin,fun i hi=>by rw [hr]at hi;cases hi⟩
 |take i p ih =>
   intro f listed σ m ids a hcl hS h
   cases f with
   |zero=>simp [vcP]at h
   |succ f =>
     rw [vcP]at h;obtain⟨h1,h2⟩:=h;simp only [takeOK,Bool.and_eq_true]at h1;obtain⟨⟨⟨⟨t1,t2⟩,t3⟩,t4⟩,t5⟩:=h1;have hr:i∈Region.ready .any ops listed:=by simpa using t3
     obtain⟨_,oi,hoi,_⟩:=mem_ready.1 hr;exact AnyX_take t1 hcl hoi (by simpa using t2) t3 t4 t5 (xOp_mono (fun a w ⟨σ',S,ids',q1,q2⟩=>ih f (m:=⟨w,S⟩) (hcl.set hr) q1 q2) (vcP1_ok hGE hS h2))
 |one i p ih =>
   intro f listed σ m ids a hcl hS h
   cases f with
   |zero=>simp [vcP]at h
   |succ f =>
     rw [vcP]at h;obtain⟨h1,h2⟩:=h;have hr:Region.ready .any ops listed=[i]:=by simpa using h1
     refine AnyX_all hr (by simp) fun k hk=>?_
     have hki:k=i:=by simpa using hk
     subst hki;exact xOp_mono (fun a w ⟨σ',S,ids',q1,q2⟩=>ih f (m:=⟨w,S⟩) (hcl.set (by rw [hr];simp)) q1 q2) (vcP1_ok hGE hS h2)
 |two i p j q ih1 ih2 =>
   intro f listed σ m ids a hcl hS h
   cases f with
   |zero=>simp [vcP]at h
   |succ f =>
     rw [vcP]at h;obtain⟨h1,h2,h3⟩:=h;have hr:Region.ready .any ops listed=[i,j]:=by simpa using h1
     refine AnyX_all hr (by simp) fun k hk=>?_
     have hk2:k=i∨k=j:=by simpa using hk
     rcases hk2 with rfl|rfl
     ·exact xOp_mono (fun a w ⟨σ',S,ids',q1,q2⟩=>ih1 f (m:=⟨w,S⟩) (hcl.set (by rw [hr];simp)) q1 q2) (vcP1_ok hGE hS h2)
     ·exact xOp_mono (fun a w ⟨σ',S,ids',q1,q2⟩=>ih2 f (m:=⟨w,S⟩) (hcl.set (by rw [hr];simp)) q1 q2) (vcP1_ok hGE hS h3)
 |three i p j q k r ih1 ih2 ih3 =>
   intro f listed σ m ids a hcl hS h
   cases f with
   |zero=>simp [vcP]at h
   |succ f =>
     rw [vcP]at h;obtain⟨h1,h2,h3,h4⟩:=h;have hr:Region.ready .any ops listed=[i,j,k]:=by simpa using h1
     refine AnyX_all hr (by simp) fun n hn=>?_
     have hk2:n=i∨n=j∨n=k:=by simpa using hn
     rcases hk2 with rfl|rfl|rfl
     ·exact xOp_mono (fun a w ⟨σ',S,ids',q1,q2⟩=>ih1 f (m:=⟨w,S⟩) (hcl.set (by rw [hr];simp)) q1 q2) (vcP1_ok hGE hS h2)
     ·exact xOp_mono (fun a w ⟨σ',S,ids',q1,q2⟩=>ih2 f (m:=⟨w,S⟩) (hcl.set (by rw [hr];simp)) q1 q2) (vcP1_ok hGE hS h3)
     ·exact xOp_mono (fun a w ⟨σ',S,ids',q1,q2⟩=>ih3 f (m:=⟨w,S⟩) (hcl.set (by rw [hr];simp)) q1 q2) (vcP1_ok hGE hS h4)
 |four i p j q k r l s ih1 ih2 ih3 ih4 =>
   intro f listed σ m ids a hcl hS h
   cases f with
   |zero=>simp [vcP]at h
   |succ f =>
     rw [vcP]at h;obtain⟨h1,h2,h3,h4,h5⟩:=h;have hr:Region.ready .any ops listed=[i,j,k,l]:=by simpa using h1
     refine AnyX_all hr (by simp) fun n hn=>?_
     have hk2:n=i∨n=j∨n=k∨n=l:=by simpa using hn
     rcases hk2 with rfl|rfl|rfl|rfl
     ·exact xOp_mono (fun a w ⟨σ',S,ids',q1,q2⟩=>ih1 f (m:=⟨w,S⟩) (hcl.set (by rw [hr];simp)) q1 q2) (vcP1_ok hGE hS h2)
     ·exact xOp_mono (fun a w ⟨σ',S,ids',q1,q2⟩=>ih2 f (m:=⟨w,S⟩) (hcl.set (by rw [hr];simp)) q1 q2) (vcP1_ok hGE hS h3)
     ·exact xOp_mono (fun a w ⟨σ',S,ids',q1,q2⟩=>ih3 f (m:=⟨w,S⟩) (hcl.set (by rw [hr];simp)) q1 q2) (vcP1_ok hGE hS h4)
     ·exact xOp_mono (fun a w ⟨σ',S,ids',q1,q2⟩=>ih4 f (m:=⟨w,S⟩) (hcl.set (by rw [hr];simp)) q1 q2) (vcP1_ok hGE hS h5)
 |five i p j q k r l s n0 t ih1 ih2 ih3 ih4 ih5 =>
   intro f listed σ m ids a hcl hS h
   cases f with
   |zero=>simp [vcP]at h
   |succ f =>
     rw [vcP]at h;obtain⟨h1,h2,h3,h4,h5,h6⟩:=h;have hr:Region.ready .any ops listed=[i,j,k,l,n0]:=by simpa using h1
     refine AnyX_all hr (by simp) fun n hn=>?_
     have hk2:n=i∨n=j∨n=k∨n=l∨n=n0:=by simpa using hn
     rcases hk2 with rfl|rfl|rfl|rfl|rfl
     ·exact xOp_mono (fun a w ⟨σ',S,ids',q1,q2⟩=>ih1 f (m:=⟨w,S⟩) (hcl.set (by rw [hr];simp)) q1 q2) (vcP1_ok hGE hS h2)
     ·exact xOp_mono (fun a w ⟨σ',S,ids',q1,q2⟩=>ih2 f (m:=⟨w,S⟩) (hcl.set (by rw [hr];simp)) q1 q2) (vcP1_ok hGE hS h3)
     ·exact xOp_mono (fun a w ⟨σ',S,ids',q1,q2⟩=>ih3 f (m:=⟨w,S⟩) (hcl.set (by rw [hr];simp)) q1 q2) (vcP1_ok hGE hS h4)
     ·exact xOp_mono (fun a w ⟨σ',S,ids',q1,q2⟩=>ih4 f (m:=⟨w,S⟩) (hcl.set (by rw [hr];simp)) q1 q2) (vcP1_ok hGE hS h5)
     ·exact xOp_mono (fun a w ⟨σ',S,ids',q1,q2⟩=>ih5 f (m:=⟨w,S⟩) (hcl.set (by rw [hr];simp)) q1 q2) (vcP1_ok hGE hS h6)
end
end Go.SX
namespace Go.SX
open Go.XK Go.RowKit
mutual
theorem puS_ex:∀ (s:SV) {t:SV} {k:ShS s→Prop},puS s t k→∃ x,k x:=by
 intro s t k h;cases s<;>simp only [puS]at h
 case agg l =>
               split at h;· exact puL_ex l h
               ·exact h.elim
 case tup l =>
               split at h;· exact puL_ex l h
               ·exact h.elim
 all_goals first|exact⟨_,h⟩|(split at h<;>first|exact h.elim|exact⟨_,h⟩|(split at h<;>first|exact h.elim|exact⟨_,h⟩))
theorem puL_ex:∀ (l:List SV) {q:List SV} {k:ShL l→Prop},puL l q k→∃ x,k x:=by
 intro l q k h
 cases l with
 |nil=>simp only [puL]at h;exact⟨_,h⟩
 |cons s r =>
   simp only [puL]at h;split at h
   ·exact h.elim
   ·obtain⟨x,h⟩:=puS_ex s h;obtain⟨y,h⟩:=puL_ex r h;exact⟨_,h⟩
end
theorem puB_ex {s t:HB} {k:ShB s→Prop} (h:puB s t k):∃ x,k x:=by
 cases s<;>simp only [puB]at h
 case row T cs =>
                  split at h;· exact puL_ex cs h
                  ·exact h.elim
 all_goals first|exact⟨_,h⟩|(split at h<;>first|exact h.elim|exact⟨_,h⟩|(split at h<;>first|exact h.elim|exact⟨_,h⟩))
theorem puU_ex {σ:St}:∀ {l:List (Nat×SV)} {k:ShU l→Prop},puU σ l k→∃ x,k x
 |[],_,h=>⟨_,h⟩
 |p::r,k,h=>by
   simp only [puU]at h;split at h
   ·obtain⟨x,h⟩:=puS_ex p.2 h;obtain⟨y,h⟩:=puU_ex h;exact⟨_,h⟩
   ·exact h.elim
theorem puV_ex {σ:St} {f:Nat→Nat}:∀ {l:List (Nat×HB)} {k:ShV l→Prop},puV σ f l k→∃ x,k x
 |[],_,h=>⟨_,h⟩
 |p::r,k,h=>by
   simp only [puV]at h;split at h
   ·obtain⟨x,h⟩:=puB_ex h;obtain⟨y,h⟩:=puV_ex h;exact⟨_,h⟩
   ·exact h.elim
section
variable (nl:List (Nat×TypeId×Nat)) (us:List Nat) (ov:List (Nat×SV)) (hs ks dr:List Nat)
theorem withP_ex {σ:St} {k:List (Nat×SV)→List (Nat×HB)→Nat→Prop} (h:withP nl us ov hs σ k):∃ pu pv q,k pu pv q:=by
 unfold withP at h;simp only [fE_eq,fH_eq,fN_eq]at h;exact⟨_,_,_,h⟩
theorem withR_ex {σ σ':St} {pu:List (Nat×SV)} {pv:List (Nat×HB)} {q:Nat} {k:ShU pu→ShV pv→Prop} (h:withR nl σ σ' pu pv q k):∃ x y,k x y:=by
 unfold withR at h;simp only [deepS_eq,fNs_eq]at h;obtain⟨x,h⟩:=puU_ex h;obtain⟨y,h⟩:=puV_ex h;exact⟨x,y,h⟩
end
def OutE (C:Cx) (K:Exit→St→Prop) (e:Exit) (a:Act) (w:World):Prop:=∃ σ S ids,Sat C σ ⟨w,S⟩ ids a∧K e σ
section
variable {E:En} {C:Cx} {σ τ:St} {m:Mm} {ids:List Value} {a:Act} {DB:Db E}
theorem LD.z {c:Nat} {z z':Option Bool} {l:List (TabT c)} {y:Value} (hz:zle z z') (h:LD (KT c) (BT c) (TabD c) z l m y):LD (KT c) (BT c) (TabD c) z' l m y:=by
 rcases hz with rfl|rfl
 ·exact h.anyZ
 ·exact h
theorem LD.zp {c:Nat} {z z':Option Bool} {l:List (TabT c)} {y:Value} (hz:zlp z z' l.length) (h:LD (KT c) (BT c) (TabD c) z l m y):LD (KT c) (BT c) (TabD c) z' l m y:=by
 rcases hz with rfl|rfl|⟨rfl,hn⟩
 ·exact h.anyZ
 ·exact h
 ·obtain⟨uss,h1,h2,h3,_,h5⟩:=h;obtain⟨b,q,cp,rfl,_⟩:=h1.has (by omega)
  exact⟨uss,h1,h2,h3,rfl,h5⟩
theorem eqL_spec {c d:Nat} {l:List (TabT c)} {l':List (TabT d)} (h:eqL c d l l'):∃ e:c=d,e▸l=l':=by
 unfold eqL at h;split at h
 ·rename_i e _;subst e;exact⟨rfl,h⟩
 ·exact h.elim
mutual
theorem leS_ok:∀ (s t:SV) {y:Value},leS s t→Den m ids s y→Den m ids t y:=by
 intro s t y h hd;have un:Den m ids .un y:=by rw [Den];trivial
 have eq:s=t→Den m ids t y:=fun e=>e▸hd
 cases s with
 |i a=>cases t<;>simp only [leS]at h<;>first|exact un|exact eq (by rw [h])|exact h.elim
 |b a=>cases t<;>simp only [leS]at h<;>first|exact un|exact eq (by rw [h])|exact h.elim
 |w8 a=>cases t<;>simp only [leS]at h<;>first|exact un|exact eq (by rw [h])|exact h.elim
 |w32 a=>cases t<;>simp only [leS]at h<;>first|exact un|exact eq (by rw [h])|exact h.elim
 |w64 a=>cases t<;>simp only [leS]at h<;>first|exact un|exact eq (by rw [h])|exact h.elim
 |str a=>cases t<;>simp only [leS]at h<;>first|exact un|exact eq (by rw [h])|exact h.elim
 |lst z c l =>
   cases t<;>simp only [leS]at h<;>first|exact un|skip
   case lst z' c' l' =>
     obtain⟨hz,he⟩:=h;obtain⟨e,he⟩:=eqL_spec he;subst e;subst he;rw [den_lst]at hd ⊢;exact LD.zp hz hd
 |tup a =>
   cases t<;>simp only [leS]at h<;>first|exact un|skip
   case tup b =>
     rw [Den]at hd ⊢;obtain⟨us,rfl,h1⟩:=hd;exact⟨us,rfl,leL_ok a b h h1⟩
 |agg a =>
   cases t<;>simp only [leS]at h<;>first|exact un|skip
   case agg b =>
     rw [Den]at hd ⊢;obtain⟨us,rfl,h1⟩:=hd;exact⟨us,rfl,leL_ok a b h h1⟩
 |v x =>
   cases t<;>simp only [leS]at h<;>first|exact un|exact eq h|skip
   case lst z' c' l' =>
     split at h
     ·obtain⟨hz,he⟩:=h;subst he;cases den_v hd;rw [den_lst];exact LD.z hz ⟨[],⟨by simp,.inl ⟨⟨_,rfl⟩,rfl⟩⟩,Elts.nil,fun h=>absurd rfl h,rfl,by simp⟩
     ·exact h.elim
 |_=>cases t<;>simp only [leS]at h<;>first|exact un|exact eq h|exact h.elim
theorem leL_ok:∀ (s t:List SV) {us:List Value},leL s t→DenL m ids s us→DenL m ids t us
 |[],[],_,_,h=>h
 |s::r,t::q,us,h,hd=>by
   rw [leL]at h;rw [DenL]at hd ⊢;obtain⟨u,us',rfl,h1,h2⟩:=hd;exact⟨u,us',rfl,leS_ok s t h.1 h1,leL_ok r q h.2 h2⟩
 |[],_::_,_,h,_=>by rw [leL]at h;exact h.elim
 |_::_,[],_,h,_=>by rw [leL]at h;exact h.elim
end
theorem leH_ok {h h':HB} {i:Nat} (hl:leH h h') (hs:HSat m ids i h):HSat m ids i h'∧h'.own=h.own:=by
 unfold leH at hl;split at hl
 ·obtain⟨rfl,hl⟩:=hl;obtain⟨b,vs,h1,h2,h3⟩:=hs;exact⟨⟨b,vs,h1,h2,leL_ok _ _ hl h3⟩,rfl⟩
 ·obtain⟨rfl,hl⟩:=hl;obtain⟨b,vs,h1,h2,h3,h4⟩:=hs;exact⟨⟨b,vs,h1,h2,leL_ok _ _ hl h3,h4⟩,rfl⟩
 ·rename_i T z c l T' z' c' l';obtain⟨rfl,hz,he⟩:=hl;obtain⟨e,he⟩:=eqL_spec he;subst e;subst he;obtain⟨v,uss,h1,h2,h3,h4,h5⟩:=hs;refine⟨⟨v,uss,h1,h2,h3,?_,h5⟩,rfl⟩;rcases hz with rfl|rfl
  ·trivial
  ·exact h4
 ·rename_i z c l z' c' l';obtain⟨hz,he⟩:=hl;obtain⟨e,he⟩:=eqL_spec he;subst e;subst he;obtain⟨v,h1,h2⟩:=hs;exact⟨⟨v,h1,LD.z hz h2⟩,rfl⟩
 ·obtain⟨rfl,rfl,he⟩:=hl;obtain⟨e,he⟩:=eqL_spec he;subst e;subst he;exact⟨hs,rfl⟩
 ·unfold eqM at hl;split at hl
  ·rename_i e g _ _;subst e;subst g;subst hl;exact⟨hs,rfl⟩
  ·exact hl.elim
 ·subst hl;exact⟨hs,rfl⟩
theorem slots_spec {n z:Nat} {r:List Nat}:∀ {l:List (Nat×SV)},slotsLe σ n z r l→∀ p∈l,∃ s,σ.slot [] p.1=some s∧leS s (ren n z r p.2)
 |[],_,_,h=>by cases h
 |(t,s)::l,h,p,hp=>by
   simp only [slotsLe]at h;split at h
   ·rename_i s' hs;rcases List.mem_cons.1 hp with rfl|hp
    ·exact⟨s',hs,h.1⟩
    ·exact slots_spec h.2 p hp
   ·exact h.elim
theorem heaps_spec {n z:Nat} {r:List Nat}:∀ {l:List (Nat×HB)},heapLe σ n z r l→∀ p∈l,∃ h,lk σ.heap (rn n z r p.1)=some h∧leH h (renB n z r p.2)
 |[],_,_,h=>by cases h
 |(t,s)::l,h,p,hp=>by
   simp only [heapLe]at h;split at h
   ·rename_i s' hs;rcases List.mem_cons.1 hp with rfl|hp
    ·exact⟨s',hs,h.1⟩
    ·exact heaps_spec h.2 p hp
   ·exact h.elim
theorem mapRn_inj {n z:Nat} {r:List Nat}:∀ {l:List (Nat×HB)},(mapRn n z r l).Nodup→∀ p∈l,∀ q∈l,rn n z r p.1=rn n z r q.1→p.1=q.1
 |[],_,_,h,_,_,_=>by cases h
 |(i,s)::l,h,p,hp,q,hq,e=>by
   simp only [mapRn,List.nodup_cons]at h
   have mem:∀ {l:List (Nat×HB)} (p:Nat×HB),p∈l→rn n z r p.1∈mapRn n z r l:=by
     intro l
     induction l with
     |nil=>intro p h;cases h
     |cons x l ih =>
       intro p h;rcases List.mem_cons.1 h with rfl|h
       ·exact List.mem_cons_self ..
       ·exact List.mem_cons_of_mem _ (ih p h)
   rcases List.mem_cons.1 hp with rfl|hp<;>rcases List.mem_cons.1 hq with rfl|hq
   ·rfl
   ·exact absurd (by rw [e];exact mem q hq) h.1
   ·exact absurd (by rw [← e];exact mem p hp) h.1
   ·exact mapRn_inj h.2 p hp q hq e
theorem meets_ok {n:Nat} {r:List Nat} (hS:Sat C σ m ids a) (hg:τ.gen=[]) (hk:τ.kn=[]) (h:meets n r σ τ):∃ ids',Sat C τ m ids' a∧Rn' n σ.nb r ids' ids:=by
 obtain⟨h3,h1,h2⟩:=h;simp only [Bool.and_eq_true]at h3;obtain⟨q1,q2,q3,q4,q5,q6,q7⟩:=h3;have q1:=allLt_spec q1;have q2:=Nat.eq_of_beq_eq_true q2;have q3:=Nat.le_of_ble_eq_true q3;have q4:=Nat.le_of_ble_eq_true q4;have q5:=Nat.eq_of_beq_eq_true q5;have q6:=allLt_spec q6;have q7:=nodupN_spec q7;rw [len_eq]at q2;have hlen:=hS.len;have hs:=slots_spec h1;have hh:=heaps_spec h2
 obtain⟨ids',hl',hrr,hpre⟩:∃ ids':List Value,ids'.length=τ.nb∧Rn' n σ.nb r ids' ids∧∀ i,i<n→ids'[i]?=ids[i]?:=by
   refine⟨ids.take n++r.map fun j=>ids.getD j undef,by rw [List.length_append,List.length_map,List.length_take];omega,fun i=>?_,fun i hi=>?_⟩
   ·by_cases hi:i<n
    ·have e:rn n σ.nb r i=i:=by
       unfold rn;have:Nat.blt i n=true:=Nat.ble_eq_true_of_le hi;rw [this]
     rw [e,List.getElem?_append_left (by rw [List.length_take];omega),List.getElem?_take,if_pos hi]
    ·have e:rn n σ.nb r i=match nth r (i-n)with
         |some j=>j
         |none=>i+σ.nb:=by
       unfold rn
       have:Nat.blt i n=false:=by
         cases hb:Nat.blt i n with
         |false=>rfl
         |true=>exact absurd (Nat.le_of_ble_eq_true hb) hi
       rw [this];rfl
     rw [e,List.getElem?_append_right (by rw [List.length_take];omega),List.length_take,show i-min n ids.length=i-n by omega,List.getElem?_map,nth_eq]
     cases hr:r[i-n]? with
     |none=>simp only [Option.map_none];rw [List.getElem?_eq_none (by omega)]
     |some j =>
       have:=q1 j (List.mem_of_getElem? hr);simp only [Option.map_some];rw [List.getD_eq_getElem?_getD,List.getElem?_eq_getElem (by omega),Option.getD_some]
   ·rw [List.getElem?_append_left (by rw [List.length_take];omega),List.getElem?_take,if_pos hi]
 have own1:∀ i hb,lk τ.heap i=some hb→hb≠.gone→(i,hb)∈live [] τ.heap:=fun i hb hi hb'=>lk_live hi hb' (by simp)
 have ng:∀ {i hb b},Fp ids' i hb b→hb≠.gone:=fun⟨h,_⟩ e=>by subst e;cases h
 have fpo:∀ i hb b,lk τ.heap i=some hb→Fp ids' i hb b→∃ h0,lk σ.heap (rn n σ.nb r i)=some h0∧Fp ids (rn n σ.nb r i) h0 b:=fun i hb b hi hf=>by
   obtain⟨h0,p1,p2⟩:=hh _ (own1 i hb hi (ng hf));obtain⟨q1,v,q2,q3⟩:=hf.ren (hb:=hb) hrr.rn;exact⟨h0,p1,(leH_ok p2 (hS.heap.sat _ _ p1)).2.symm.trans q1,v,q2,q3⟩
 refine⟨ids',⟨⟨hl',⟨fun i hb hi=>?_,fun i hb j hb' hi hj hne b f1 f2=>?_,fun i hb b hi f1=>?_⟩,fun i hb b hi f1=>?_,hS.S0,hS.S,hS.mod,hS.glob,by rw [← q5];exact hS.n0,fun i hi=>?_⟩,⟨hS.size,hS.defers,fun t s hl=>?_,fun t π s hl=>?_,fun s b hl=>?_⟩⟩,hrr⟩
 ·by_cases hgo:hb=.gone
  ·subst hgo;trivial
  ·obtain⟨h0,p1,p2⟩:=hh _ (own1 i hb hi hgo);exact HSat.unren hrr (leH_ok p2 (hS.heap.sat _ _ p1)).1
 ·obtain⟨_,p1,p2⟩:=fpo i hb b hi f1;obtain⟨_,p3,p4⟩:=fpo j hb' b hj f2;exact hS.heap.sep _ _ _ _ p1 p3 (fun e=>hne (mapRn_inj q7 _ (own1 i hb hi (ng f1)) _ (own1 j hb' hj (ng f2)) e)) b p2 p4
 ·obtain⟨_,p1,p2⟩:=fpo i hb b hi f1;exact hS.heap.fpS _ _ b p1 p2
 ·obtain⟨_,p1,p2⟩:=fpo i hb b hi f1;exact hS.low _ _ b p1 p2
 ·rw [hpre i (by omega)]
  exact hS.pre i (by omega)
 ·obtain⟨s0,h4,h7⟩:=hs (t,s) (lk_key hl);obtain⟨h5,h6⟩:=hS.toSatF.slot holds_nil h4;exact⟨by rw [← hS.size];exact h5,Den.unren hrr s (leS_ok _ _ h7 h6)⟩
 ·rw [hg]at hl;cases hl
 ·rw [hk]at hl;cases hl
theorem put_back {t:Nat} (ht:t<a.tmps.size):a.put (some t) (a.tmps.getD t undef)=a:=by
 have e0:a.tmps.getD t undef=a.tmps[t]:=by rw [Array.getD_eq_getD_getElem?,Array.getElem?_eq_getElem ht];rfl
 have:a.tmps.setIfInBounds t (a.tmps.getD t undef)=a.tmps:=by
   rw [e0];apply Array.ext
   ·simp
   ·intro i h1 h2;rw [Array.getElem_setIfInBounds];split
    ·rename_i e;subst e;rfl
    ·rfl
 show(⟨a.tmps.setIfInBounds t (a.tmps.getD t undef),a.defers⟩:Act)=a;rw [this]
theorem Sat.rowD {T:TypeId} {cs cs':List SV} {j:Nat} (h:Sat C σ m ids a) (hj:lk σ.heap j=some (.row T cs)) (hd:∀ us,DenL m ids cs us→DenL m ids cs' us):Sat C (setH σ j (.row T cs')) m ids a:=by
 have hl:∀ i,i≠j→lk (setH σ j (.row T cs')).heap i=lk σ.heap i:=fun i hi=>by
   simp only [setH,lk_cons];split
   ·rename_i e;exact absurd e.symm hi
   ·rfl
 have hl2:lk (setH σ j (.row T cs')).heap j=some (.row T cs'):=by simp only [setH,lk_cons];simp
 have key:∀ i hb0,lk (setH σ j (.row T cs')).heap i=some hb0→∃ hb1,lk σ.heap i=some hb1∧(∀ b,Fp ids i hb0 b→Fp ids i hb1 b)∧(HSat m ids i hb1→HSat m ids i hb0):=fun i hb0 hi=>by
   by_cases e:i=j
   ·subst e;rw [hl2]at hi;cases hi;exact⟨_,hj,fun b hf=>hf,fun⟨b,vs,h1,h2,h3⟩=>⟨b,vs,h1,h2,hd vs h3⟩⟩
   ·rw [hl i e]at hi;exact⟨_,hi,fun b hf=>hf,fun h=>h⟩
 refine⟨⟨h.len,⟨fun i hb0 hi=>?_,fun i hb0 k hb1 hi hk hne b hf hf'=>?_,fun i hb0 b hi hf=>?_⟩,fun i hb0 b hi hf=>?_,h.S0,h.S,h.mod,h.glob,h.n0,h.pre⟩,h.toSatF.of rfl rfl rfl⟩
 ·obtain⟨hb1,h1,h2,h3⟩:=key i hb0 hi;exact h3 (h.heap.sat i hb1 h1)
 ·obtain⟨hb2,h1,h2,_⟩:=key i hb0 hi;obtain⟨hb3,h4,h5,_⟩:=key k hb1 hk;exact h.heap.sep i hb2 k hb3 h1 h4 hne b (h2 b hf) (h5 b hf')
 ·obtain⟨hb2,h1,h2,_⟩:=key i hb0 hi;exact h.heap.fpS i hb2 b h1 (h2 b hf)
 ·obtain⟨hb2,h1,h2,_⟩:=key i hb0 hi;exact h.low i hb2 b h1 (h2 b hf)
theorem over_nil:∀ (cs:List SV) (o:Nat),over cs o []=cs
 |[],_=>by simp [over]
 |_::_,_=>by simp [over]
theorem over_same {s0 s:SV}:∀ {cs:List SV} {o:Nat} {us:List Value},nth cs o=some s0→(∀ u,Den m ids s0 u→Den m ids s u)→DenL m ids cs us→DenL m ids (over cs o [s]) us
 |[],_,_,h,_,_=>by cases h
 |x::r,0,us,h,hs,hd=>by
   cases h;rw [DenL]at hd;obtain⟨u,q,rfl,h1,h2⟩:=hd;rw [over,over_nil,DenL];exact⟨u,q,rfl,hs u h1,h2⟩
 |x::r,o+1,us,h,hs,hd=>by
   rw [DenL]at hd;obtain⟨u,q,rfl,h1,h2⟩:=hd;rw [over,DenL];exact⟨u,q,rfl,h1,over_same (cs:=r) h hs h2⟩
theorem den_sub_inj {j c:Nat} {lo hi:Int} {u u':Value} (h:Den m ids (.sub j c lo hi) u) (h':Den m ids (.sub j c lo hi) u'):u=u':=by
 rw [Den]at h h';obtain⟨a,n,cp,h1,_,_,_,_,_,_,rfl⟩:=h;obtain⟨a',n',cp',h2,_,_,_,_,_,_,rfl⟩:=h';rw [h1]at h2;cases h2;rfl
theorem nilC_ok (h:Sat C σ m ids a) (i o:Nat) (e:TypeId) (c:Nat):∃ ids',Sat C (nilC σ i o e c) m ids' a∧∀ s y,Den m ids s y→Den m ids' s y:=by
 unfold nilC;split
 ·rename_i T cs hi
  have hne:i≠σ.nb:=by
    obtain⟨b,vs,h2,_⟩:=h.heap.sat i _ hi;have:=(List.getElem?_eq_some_iff.1 h2).1;rw [h.len]at this;omega
  split
  ·rename_i hn;split
   ·exact⟨ids,h.rowD hi fun us hd=>over_same hn (fun u hu=>by
      cases den_v hu;rw [Den]
      exact⟨[],⟨by simp,.inl ⟨⟨_,rfl⟩,rfl⟩⟩,Elts.nil,fun h=>absurd rfl h,rfl,by simp⟩) hd,fun _ _ h=>h⟩
   have h1:=h.newB (Ext.refl m.w) (.slice none 0 0) (.arr e none c []) ⟨_,[],last_get h _,⟨by simp,.inl ⟨rfl,rfl⟩⟩,Elts.nil,trivial,by simp⟩ (fun b hf=>by
     have:=fp_last h hf
     cases this)
   refine⟨ids++[.slice none 0 0],?_,fun s y hd=>Den.app _ s hd⟩
   unfold putC
   have hi2:lk (newN σ (.arr e none c [])).heap i=some (.row T cs):=by
     simp only [newN,lk_cons];split
     ·rename_i e;exact absurd e.symm hne
     ·exact hi
   rw [hi2];exact h1.rowD hi2 fun us hd=>over_same hn (fun u hu=>by rw [den_v hu];exact den_osl h m.w _ rfl) hd
  ·rename_i j c0 lo hi' hn;obtain⟨b,vs,_,_,hd0⟩:=h.heap.sat i _ hi;rw [nth_eq]at hn;obtain⟨u0,_,hu0⟩:=hd0.get hn;obtain⟨ids1,q1,q2,_,_,q5⟩:=subz_ok h hu0;refine⟨ids1,?_,q5⟩;show Sat C (putC (subz σ (.sub j c0 lo hi')).1 i o (subz σ (.sub j c0 lo hi')).2) m ids1 a;unfold putC;split
   ·rename_i T2 cs2 hi2
    have hcs:cs2=cs:=by
      have e:lk (subz σ (.sub j c0 lo hi')).1.heap i=lk σ.heap i:=by
        unfold subz;simp only;split
        ·rename_i hj;split
         ·simp only [newN,setH,lk_cons];split
          ·rename_i e;exact absurd e.symm hne
          ·split
           ·rename_i e;rw [← e,hj]at hi;cases hi
           ·rfl
         ·rfl
        ·rfl
      rw [e,hi]at hi2;cases hi2;rfl
    subst hcs;exact q1.rowD hi2 fun us hd=>over_same (by rw [nth_eq];exact hn) (fun u hu=>by rw [den_sub_inj hu (q5 _ _ hu0)];exact q2) hd
   ·exact q1
  ·exact⟨ids,h,fun _ _ h=>h⟩
 ·exact⟨ids,h,fun _ _ h=>h⟩
theorem nilz_ok:∀ (nl:List (Nat×TypeId×Nat)) {σ:St} {m:Mm} {ids:List Value},Sat C σ m ids a→∃ ids' S',Sat C (nilz nl σ) ⟨m.w,S'⟩ ids' a∧m.le ⟨m.w,S'⟩∧∀ s y,Den m ids s y→Den ⟨m.w,S'⟩ ids' s y
 |[],σ,m,ids,h=>⟨ids,m.S,h,Mm.le.refl m,fun _ _ h=>h⟩
 |(t,e,c)::r,σ,m,ids,h=>by
   have go:∀ {σ1:St} {ids1:List Value} {S1:Nat→Prop},Sat C σ1 ⟨m.w,S1⟩ ids1 a→m.le ⟨m.w,S1⟩→(∀ s y,Den m ids s y→Den ⟨m.w,S1⟩ ids1 s y)→∃ ids' S',Sat C (nilz r σ1) ⟨m.w,S'⟩ ids' a∧m.le ⟨m.w,S'⟩∧∀ s y,Den m ids s y→Den ⟨m.w,S'⟩ ids' s y:=fun h1 h2 h3=>by
     obtain⟨ids',S',k1,k2,k3⟩:=nilz_ok r h1;exact⟨ids',S',k1,h2.trans k2,fun s y hd=>k3 s y (h3 s y hd)⟩
   have go':∀ {σ1:St} {ids1:List Value},Sat C σ1 m ids1 a→(∀ s y,Den m ids s y→Den m ids1 s y)→∃ ids' S',Sat C (nilz r σ1) ⟨m.w,S'⟩ ids' a∧m.le ⟨m.w,S'⟩∧∀ s y,Den m ids s y→Den ⟨m.w,S'⟩ ids' s y:=fun h1 h3=>go (S1:=m.S) h1 (Mm.le.refl m) h3
   rw [nilz];split
   ·split
    ·obtain⟨ids1,h1,h2⟩:=nilC_ok h _ (t / 100000-1) e c;exact go' h1 h2
    ·exact go' h fun _ _ h=>h
   ·split
    ·rename_i hs hfr;obtain⟨ht,hv⟩:=h.toSatF.slot holds_nil hs;have hv:=den_v hv
     have h1:=h.newB (Ext.refl _) (.slice none 0 0) (.arr e none c []) ⟨_,[],last_get h _,⟨by simp,.inl ⟨rfl,rfl⟩⟩,Elts.nil,trivial,by simp⟩ (fun b hf=>by
       have:=fp_last h hf
       cases this)
     have h2:=h1.put (d:=some t) (s:=.osl σ.nb) (v:=a.tmps.getD t undef) (by simpa [dOK,← h.size] using ht) hfr (by rw [hv];exact den_osl h m.w _ rfl)
     rw [put_back ht]at h2;exact go' h2 fun s y hd=>Den.app _ s hd
    ·rename_i j c0 lo hi hs hfr;obtain⟨ht,hv⟩:=h.toSatF.slot holds_nil hs;obtain⟨ids1,q1,q2,q3,q4,q5⟩:=subz_ok h hv;have h2:=q1.put (d:=some t) (s:=(subz σ (.sub j c0 lo hi)).2) (v:=a.tmps.getD t undef) (by simpa [dOK,← h.size] using ht) (by unfold fresh at hfr ⊢;rw [q3,q4];exact hfr) q2
     rw [put_back ht]at h2;exact go' h2 q5
    ·obtain⟨S',h1,h2⟩:=h.frz [_];exact go h2 h1 fun s y hd=>Den.le h1 s hd
    ·rename_i i hs;obtain⟨ht,hv⟩:=h.toSatF.slot holds_nil hs;obtain⟨ids1,q1,q2,q3,q4,q5,q6,q7⟩:=h.retN i;split
     ·rename_i he hfr;obtain⟨S',h1,h2⟩:=q1.frz [i];have hvv:=vw_den h2 (Den.le h1 _ (q2 _ _ hv));have h3:=h2.put (d:=some t) (v:=a.tmps.getD t undef) (by simpa [dOK,← h.size] using ht) (by unfold fresh at hfr ⊢;rw [frz_gen.1,frz_gen.2,q4,q5];exact hfr) hvv
      rw [put_back ht]at h3;exact go h3 h1 fun s y hd=>Den.le h1 s (q2 s y hd)
     ·exact go' q1 q2
    ·exact go' h fun _ _ h=>h
theorem meetsA_ok {n q:Nat} {nl:List (Nat×TypeId×Nat)} {U:List (Nat×SV)} {V:List (Nat×HB)} (hS:Sat C σ m ids a) (hg:τ.gen=[]) (hk:τ.kn=[]) (h:meetsA n q nl U V σ τ):∃ ids' S',Sat C τ ⟨m.w,S'⟩ ids' a:=by
 obtain⟨ids1,S',h1,_⟩:=nilz_ok nl hS;obtain⟨ids2,h2,_⟩:=meets_ok h1 hg hk (meetsA_iff.1 h);exact⟨ids2,S',h2⟩
def LabOK (E:En) (C:Cx) (ops:Array Oper) (kd:Nat→Nat) (K1:St→Prop) (labs:List Lab):Prop :=
 ∀ k L,nth labs k=some L→∀ (m:Mm) (ids:List Value) (a:Act),Closed .any ops L.l→Sat C L.st m ids a→AnyX E.P ops .any kd (fun a w=>Out C K1 a w) (L.f+1) L.l a m.w
theorem vcJ_ok {ops:Array Oper} (hGE:C.G=E.G) {kd:Nat→Nat} {K1:St→Prop} {labs:List Lab} (hL:LabOK E C ops kd K1 labs):∀ (p:PJ) (f:Nat) {listed:Array Bool} {σ:St} {m:Mm} {ids:List Value} {a:Act},Closed .any ops listed→Sat C σ m ids a→vcJ E DB C.N ops kd labs p f listed σ K1 →
   AnyX E.P ops .any kd (fun a w=>Out C K1 a w) f listed a m.w:=by
 intro p
 induction p with
 |jmp k =>
   intro f listed σ m ids a hcl hS h;rw [vcJ]at h;split at h
   ·rename_i L hk;obtain⟨h1,h2⟩:=h;simp only [Bool.and_eq_true]at h1;obtain⟨h3,h4,h5⟩:=h1;have h3:=Nat.eq_of_beq_eq_true h3;have h4:listed=L.l:=by simpa using h4
    subst h3 h4
    have hg:L.st.gen=[]∧L.st.kn=[]:=by
      unfold Lab.ok at h5;split at h5
      ·rename_i q1 q2;exact⟨q1,q2⟩
      ·cases h5
    obtain⟨ids',S',h6⟩:=meetsA_ok hS hg.1 hg.2 h2;exact hL k L hk ⟨m.w,S'⟩ ids' a hcl h6
   ·cases h
 |fin =>
   intro f listed σ m ids a hcl hS h;rw [vcJ,thenS_eq]at h;obtain⟨h1,h2⟩:=h;have hr:Region.ready .any ops listed=[]:=List.isEmpty_iff.1 h1
   have fin:∀ w,Ext m.w w→Out C K1 a w:=fun w hw=>by
     have h1:=hS.ext hw;refine⟨{ σ with gen:=[],kn:=[] },m.S,ids,?_,h2⟩
     exact⟨h1.toSatH.of rfl rfl rfl,h1.size,h1.defers,h1.env,fun t π s hl=>(by cases hl),fun s b hl=>(by cases hl)⟩
   cases f with
   |zero=>exact⟨hr,fin⟩
   |succ f=>exact⟨fun _=>fin,fun i hi=>by rw [hr]at hi;cases hi⟩
 |take i p ih =>
   intro f listed σ m ids a hcl hS h
   cases f with
   |zero=>simp [vcJ]at h
   |succ f =>
     rw [vcJ]at h;obtain⟨h1,h2⟩:=h;simp only [takeOK,Bool.and_eq_true]at h1;obtain⟨⟨⟨⟨t1,t2⟩,t3⟩,t4⟩,t5⟩:=h1;have hr:i∈Region.ready .any ops listed:=by simpa using t3
     obtain⟨_,oi,hoi,_⟩:=mem_ready.1 hr;exact AnyX_take t1 hcl hoi (by simpa using t2) t3 t4 t5 (xOp_mono (fun a w ⟨σ',S,ids',q1,q2⟩=>ih f (m:=⟨w,S⟩) (hcl.set hr) q1 q2) (vcP1_ok hGE hS h2))
theorem fstL_spec {ops:Array Oper} {kd:Nat→Nat} {labs:List Lab} {f:Nat} {listed:Array Bool} {σ:St} {K1:St→Prop} {N:Nat}:∀ {al:List (Nat×PJ)},vcAl E DB N ops kd labs f listed σ K1 al→∀ i∈fstL al,∃ p,vcP1 E DB N ops kd i σ fun σ'=>vcJ E DB N ops kd labs p f (listed.setIfInBounds i true) σ' K1
 |[],_,i,hi=>by cases hi
 |(j,p)::r,h,i,hi=>by
   rw [vcAl]at h;rw [fstL]at hi;rcases List.mem_cons.1 hi with rfl|hi
   ·exact⟨p,h.1⟩
   ·exact fstL_spec h.2 i hi
theorem vcLs_ok {ops:Array Oper} (hGE:C.G=E.G) {kd:Nat→Nat} {K1:St→Prop}:∀ (labs:List Lab),vcLs E DB C.N ops kd K1 labs→LabOK E C ops kd K1 labs
 |[],_=>fun k L h=>by simp [nth]at h
 |L::r,h=>by
   rw [vcLs]at h;obtain⟨h1,h2,h3⟩:=h;have ih:=vcLs_ok hGE r h3;intro k L' hk
   cases k with
   |succ k=>exact ih k L' hk
   |zero =>
     cases hk;intro m ids a hcl hS;simp only [Bool.and_eq_true]at h1;have hr:Region.ready .any ops L.l=fstL L.al:=by simpa using h1.1
     refine AnyX_all hr (fun e=>by rw [e]at h1;simp at h1) fun i hi=>?_
     obtain⟨p,hp⟩:=fstL_spec h2 i hi;exact xOp_mono (fun a w ⟨σ',S,ids',q1,q2⟩=>vcJ_ok hGE ih p _ (m:=⟨w,S⟩) (hcl.set (by rw [hr];exact hi)) q1 q2) (vcP1_ok hGE hS hp)
variable {ro:Option Nat}
theorem loop_rule {α:Type} {P:Program} {c:Code} {Q:Exit→Act→World→Prop} (I:α→Act→World→Prop) (μ:α→Nat) (s0:α) {w:World} (h0:I s0 a w)
   (round:∀ s a w,I s a w→c.wpIn (FR ro) 0 P (Exit.then (fun a' w'=>∃ s',I s' a' w'∧μ s'<μ s) Q) a w):(Code.loop c).wpIn (FR ro) 0 P Q a w:=by
 intro b k cs hro hb hr
 have key:∀ n s a1 w,μ s=n→I s a1 w →
     ∃ e a' w',Q e a' w'∧ArrivesIn (Machine.fenced P (FR ro)) P (lone (b.atR a1 (.code c :: .inLoop c::k)) cs w) b k cs e a' w':=by
   intro n
   induction n using Nat.strongRecOn with
   |_ n ih =>
     intro s a w hn hI;obtain⟨e,a₁,w₁,hq,harr⟩:=round s a w hI b (.inLoop c::k) cs hro hb hr
     cases e with
     |normal =>
       obtain⟨s',hI₁,hlt⟩:=hq;obtain⟨e₂,a₂,w₂,hq₂,harr₂⟩:=ih (μ s') (hn▸hlt) s' a₁ w₁ rfl hI₁;exact⟨e₂,a₂,w₂,hq₂,.of_steps (StepsIn.trans harr (.one (fenced_calm hb hr rfl) stepR_inLoop)) harr₂⟩
     |exit id=>exact⟨_,a₁,w₁,hq,.pass (x:=.inLoop c) rfl (fun _ _=>.inl (by simp)) harr⟩
     |goto l=>exact⟨_,a₁,w₁,hq,.pass (x:=.inLoop c) rfl (fun _ _=>.inl (by simp)) harr⟩
     |ret=>exact⟨_,a₁,w₁,hq,.pass (x:=.inLoop c) rfl (fun _ _=>.inl (by simp)) harr⟩
     |panic ch=>exact⟨_,a₁,w₁,hq,.pass (x:=.inLoop c) rfl (fun _ _=>.inl (by simp)) harr⟩
     |outgrown=>exact⟨_,a₁,w₁,hq,.pass (x:=.inLoop c) rfl (fun _ _=>.inl (by simp)) harr⟩
 obtain⟨e,a',w',hq,harr⟩:=key _ s0 a w rfl h0;exact⟨e,a',w',hq,.of_steps (.one (fenced_calm hb hr rfl) stepR_loop) harr⟩
theorem vc_ok (hGE:C.G=E.G):∀ (c:Code) {σ:St} {K:Exit→St→Prop} {m:Mm} {ids:List Value} {a:Act},Sat C σ m ids a→vc E DB C.N c σ K→c.wpIn (FR ro) 0 E.P (OutE C K) a m.w
 |.skip,σ,K,m,ids,a,hS,h=>wpIn_skip ⟨σ,m.S,ids,hS,h⟩
 |.ret,σ,K,m,ids,a,hS,h=>wpIn_ret ⟨σ,m.S,ids,hS,h⟩
 |.exit i,σ,K,m,ids,a,hS,h=>wpIn_exit ⟨σ,m.S,ids,hS,h⟩
 |.region id ops false,σ,K,m,ids,a,hS,h=>by
   rw [vc]at h;refine region_seq (fun _=>3) ?_
   have e:∀ k n,upFrom k n=List.range' k n:=by
     intro k n
     induction n generalizing k with
     |zero=>rfl
     |succ n ih=>rw [upFrom,ih,List.range'_succ]
   rw [List.range_eq_range',← e];exact vcOps_ok hGE _ hS h
 |.region id ops true,σ,K,m,ids,a,hS,h=>by
   rw [vc]at h;rcases h with ⟨kd,l,h1,h2⟩|⟨kd,p,h1⟩|⟨kd,labs,p,h1,h2⟩
   ·exact region_draw l _ E.hm h1 (vcOps_ok hGE _ hS h2)
   ·exact region_drawA _ E.hm (vcP_ok hGE p _ (closed_start _) hS h1)
   ·exact region_drawA _ E.hm (vcJ_ok hGE (vcLs_ok hGE labs h2) p _ (closed_start _) hS h1)
 |.seq x y,σ,K,m,ids,a,hS,h=>by
   rw [vc]at h
   have plain:vc E DB C.N x σ (fun e σ'=>match e with
       |.normal=>vc E DB C.N y σ' K
       |e=>K e σ')→(Code.seq x y).wpIn (FR ro) 0 E.P (OutE C K) a m.w:=fun h=>by
     refine wpIn_seq (wpIn_mono (vc_ok hGE x hS h) fun e a' w' h'=>?_)
     obtain⟨σ',S,ids',h1,h2⟩:=h'
     cases e with
     |normal=>exact vc_ok hGE y (m:=⟨w',S⟩) h1 h2
     |_=>exact⟨σ',S,ids',h1,h2⟩
   split at h
   ·exact plain h
   ·rcases h with h|h
    ·exact plain h
    rcases h with h|⟨nl,us,ov,hs,ks,dr,h⟩
    rotate_left
    ·obtain⟨pu,pv,q,F,h1,h2⟩:=withP_ex nl us ov hs h;refine wpIn_seq (wpIn_mono (vc_ok hGE x hS h1) fun e a' w' h'=>?_)
     obtain⟨σ',S,ids',h3,h4⟩:=h'
     cases e with
     |normal =>
       obtain⟨x,y',hF,hm⟩:=withR_ex nl h4;obtain⟨ids2,S2,h5⟩:=meetsA_ok h3 rfl rfl hm;exact vc_ok hGE y (m:=⟨w',S2⟩) h5 (by have:=h2 x y' hF;rw [deepS_eq]at this;exact this)
     |_=>exact⟨σ',S,ids',h3,h4⟩
    ·obtain⟨Sx,q,nl,ks,U,V,dr,F,h1,h2⟩:=h;refine wpIn_seq (wpIn_mono (vc_ok hGE x hS h1) fun e a' w' h'=>?_)
     obtain⟨σ',S,ids',h3,h4⟩:=h'
     cases e with
     |normal =>
       obtain⟨s,hF,hm⟩:=h4;obtain⟨ids2,S2,h5⟩:=meetsA_ok h3 rfl rfl hm;exact vc_ok hGE y (m:=⟨w',S2⟩) h5 (by have:=h2 s hF;rw [deepS_eq]at this;exact this)
     |_=>exact⟨σ',S,ids',h3,h4⟩
 |.cond c x y,σ,K,m,ids,a,hS,h=>by
   rw [vc]at h;split at h
   ·rename_i q hq;obtain⟨v,_,e,hd⟩:=hS.toSatF.ev (hGE▸hS.glob) holds_nil hq;rw [Den]at hd;subst hd;exact wpIn_cond_split e (fun hq=>vc_ok hGE x hS (h.1 hq)) (fun hq=>vc_ok hGE y hS (h.2 hq))
   ·cases h
 |.block i c,σ,K,m,ids,a,hS,h=>by
   rw [vc]at h;refine wpIn_block (wpIn_mono (vc_ok hGE c hS h) fun e a' w' h'=>?_)
   obtain⟨σ',S,ids',h1,h2⟩:=h'
   cases e with
   |exit j =>
     simp only [Exit.inBlock];simp only at h2;split
     ·rename_i hj;subst hj;have:Nat.beq j j=true:=by simp
      rw [this]at h2;exact⟨σ',S,ids',h1,h2⟩
     ·rename_i hj
      have:Nat.beq j i=false:=by
        cases hb:Nat.beq j i with
        |false=>rfl
        |true=>exact absurd (Nat.eq_of_beq_eq_true hb) hj
      rw [this]at h2;exact⟨σ',S,ids',h1,h2⟩
   |_=>exact⟨σ',S,ids',h1,h2⟩
 |.loop c,σ,K,m,ids,a,hS,h=>by
   rw [vc]at h;rcases h with h|⟨n,h⟩|⟨nl,us,ov,hs,ks,dr,h⟩
   rotate_left
   ·refine loop_rule (fun(n:Nat) a w=>∃ σ S ids,Sat C σ ⟨w,S⟩ ids a∧unr (vc E DB C.N c) n σ K) (fun n=>n) n ⟨σ,m.S,ids,hS,h⟩ fun n a w ⟨σ,S,ids,hS,h⟩=>?_
    cases n with
    |zero=>exact h.elim
    |succ n =>
      rw [unr]at h;refine wpIn_mono (vc_ok hGE c (m:=⟨w,S⟩) hS h) fun e a' w' h'=>?_
      obtain⟨σ',S',ids',h1,h2⟩:=h'
      cases e with
      |normal=>exact⟨n,⟨σ',S',ids',h1,h2⟩,Nat.lt_succ_self n⟩
      |_=>exact⟨σ',S',ids',h1,h2⟩
   ·obtain⟨pu,pv,q,F,μ,h⟩:=withP_ex nl us ov hs h;obtain⟨x0,y0,hF0,hm0,hr⟩:=withR_ex nl h;obtain⟨ids0,S0,hS0⟩:=meetsA_ok hS rfl rfl hm0;refine loop_rule (fun(s:{ s:ShU pu×ShV pv // F s.1 s.2 }) a w=>∃ S ids,Sat C (hd σ ks q dr (fiU pu s.1.1) (fiV pv s.1.2)) ⟨w,S⟩ ids a) (fun s=>μ s.1.1 s.1.2) ⟨(x0,y0),hF0⟩ ⟨S0,ids0,hS0⟩ fun⟨s,hF⟩ a w ⟨S,ids,hS⟩=>?_
    refine wpIn_mono (vc_ok hGE c (m:=⟨w,S⟩) hS (by have:=hr s.1 s.2 hF;rw [deepS_eq]at this;exact this)) fun e a' w' h'=>?_
    obtain⟨σ',S',ids',h1,h2⟩:=h'
    cases e with
    |normal =>
      obtain⟨x',y',hF',hlt,hm⟩:=withR_ex nl h2;obtain⟨ids2,S2,h5⟩:=meetsA_ok h1 rfl rfl hm;exact⟨⟨(x',y'),hF'⟩,⟨S2,ids2,h5⟩,hlt⟩
    |_=>exact⟨σ',S',ids',h1,h2⟩
   obtain⟨Sx,q,nl,ks,U,V,dr,F,μ,s0,hF0,hm0,hr⟩:=h;obtain⟨ids0,S0,hS0⟩:=meetsA_ok hS rfl rfl hm0;refine loop_rule (fun(s:{ s:Sx // F s }) a w=>∃ S ids,Sat C (hd σ ks q dr (U s.1) (V s.1)) ⟨w,S⟩ ids a) (fun s=>μ s.1) ⟨s0,hF0⟩ ⟨S0,ids0,hS0⟩ fun⟨s,hF⟩ a w ⟨S,ids,hS⟩=>?_
   refine wpIn_mono (vc_ok hGE c (m:=⟨w,S⟩) hS (by have:=hr s hF;rw [deepS_eq]at this;exact this)) fun e a' w' h'=>?_
   obtain⟨σ',S',ids',h1,h2⟩:=h'
   cases e with
   |normal =>
     obtain⟨s',hF',hlt,hm⟩:=h2;obtain⟨ids2,S2,h5⟩:=meetsA_ok h1 rfl rfl hm;exact⟨⟨s',hF'⟩,⟨S2,ids2,h5⟩,hlt⟩
   |_=>exact⟨σ',S',ids',h1,h2⟩
 |.rangeFunc ..,_,_,_,_,_,_,h=>h.elim
 |.scope _,_,_,_,_,_,_,h=>h.elim
 |.label _,_,_,_,_,_,_,h=>h.elim
 |.goto _,_,_,_,_,_,_,h=>h.elim
end
end Go.SX
namespace Go.SX
open Go.XK Go.RowKit
mutual
def nf:SV→Bool
 |.loc ..=>false
 |.osl _=>false
 |.nso _=>false
 |.noe ..=>false
 |.sub ..=>false
 |.oel ..=>false
 |.vel ..=>false
 |.vsl ..=>false
 |.fp cs _=>nfL cs
 |.fsl cs=>nfL cs
 |.agg l=>nfL l
 |.tup l=>nfL l
 |.clo _ fs cs=>match nfL fs with
   |true=>nfL cs
   |false=>false
 |.ifc _ x=>nf x
 |_=>true
def nfL:List SV→Bool
 |[]=>true
 |s::r=>match nf s with
   |true=>nfL r
   |false=>false
end
section
variable {z:Nat}
mutual
theorem nf_ren:∀ (s:SV),nf s=true→ren 0 z [] s=s
 |.fp cs _,h=>by rw [ren,nfL_ren cs (by rw [nf]at h;exact h)]
 |.agg l,h=>by rw [ren,nfL_ren l (by rw [nf]at h;exact h)]
 |.fsl l,h=>by rw [ren,nfL_ren l (by rw [nf]at h;exact h)]
 |.tup l,h=>by rw [ren,nfL_ren l (by rw [nf]at h;exact h)]
 |.clo _ fs cs,h=>by
   rw [nf]at h;split at h
   ·rename_i h1;rw [ren,nfL_ren fs h1,nfL_ren cs h]
   ·cases h
 |.ifc _ x,h=>by rw [ren,nf_ren x (by rw [nf]at h;exact h)]
 |.loc ..,h=>by simp [nf]at h
 |.osl _,h=>by simp [nf]at h
 |.nso _,h=>by simp [nf]at h
 |.noe ..,h=>by simp [nf]at h
 |.sub ..,h=>by simp [nf]at h
 |.oel ..,h=>by simp [nf]at h
 |.vel ..,h=>by simp [nf]at h
 |.vsl ..,h=>by simp [nf]at h
 |.v _,_=>rfl
 |.i _,_=>rfl
 |.b _,_=>rfl
 |.w8 _,_=>rfl
 |.w32 _,_=>rfl
 |.w64 _,_=>rfl
 |.str _,_=>rfl
 |.av ..,_=>rfl
 |.lst ..,_=>rfl
 |.fvec ..,_=>rfl
 |.un,_=>rfl
theorem nfL_ren:∀ (l:List SV),nfL l=true→renL 0 z [] l=l
 |[],_=>rfl
 |s::r,h=>by
   rw [nfL]at h;split at h
   ·rename_i h1;rw [renL,nf_ren s h1,nfL_ren r h]
   ·cases h
end
end
section
variable {m:Mm} {ids ids':List Value}
theorem rn_out:Rn' 0 ids.length [] [] ids:=fun i=>by
 have:rn 0 ids.length [] i=i+ids.length:=rfl;rw [this,List.getElem?_eq_none (l:=ids) (by omega)]
 rfl
theorem nf_den {s:SV} {y:Value} (h:nf s=true) (hd:Den m ids s y):Den m [] s y:=Den.unren rn_out s (by rw [nf_ren s h];exact hd)
theorem nfL_den {s:List SV} {y:List Value} (h:nfL s=true) (hd:DenL m ids s y):DenL m [] s y:=DenL.unren rn_out s (by rw [nfL_ren s h];exact hd)
end
def argE:Nat→List SV→List (Nat×SV)
 |_,[]=>[]
 |k,s::r=>(k,s)::argE (k+1) r
def entS (args:List SV) (H:List (Nat×HB)) (n:Nat):St:={ env:=argE 0 args,gen:=[],kn:=[],heap:=H,nb:=n,n0:=n }
def resV (E:En) (σ:St):List ResultVar→Option (List SV)
 |[]=>some []
 |.tmp t::r=>match σ.slot [] t,resV E σ r with
   |some s,some l=>some (s::l)
   |_,_=>none
 |.cell t T::r=>match σ.slot [] t,resV E σ r with
   |some (.loc i 0),some l=>match loadE E σ T (.loc i 0)with
     |.ok s=>some (s::l)
     |_=>none
   |_,_=>none
def pack:List SV→SV
 |[s]=>s
 |l=>.tup l
def retQ (E:En) (rs:List ResultVar) (Q:SV→St→Prop):Exit→St→Prop
 |.ret,σ=>match resV E σ rs with
   |some l=>Q (pack l) σ
   |none=>False
 |.normal,σ=>match resV E σ rs with
   |some l=>Q (pack l) σ
   |none=>False
 |_,_=>False
section
variable {E:En} {C:Cx} {σ:St} {m:Mm} {ids:List Value} {a:Act} {DB:Db E}
def rdR (tmps:Array Value):ResultVar→Sem Value
 |.tmp t=>pure (tmps.getD t undef)
 |.cell a t=>do loadVar t (← asAddr (tmps.getD a undef))
theorem res_list (hS:Sat C σ m ids a):∀ {rs:List ResultVar} {l:List SV},resV E σ rs=some l→∃ vs:List Value,DenL m ids l vs∧(rs.mapM (rdR a.tmps)).run E.P m.w=.ok vs m.w
 |[],l,h=>by
   simp only [resV,Option.some.injEq]at h;subst h;exact⟨[],by rw [DenL],by simp⟩
 |.tmp t::r,l,h=>by
   simp only [resV]at h;split at h
   ·rename_i s l' h1 h2;cases h;obtain⟨_,h3⟩:=hS.toSatF.slot holds_nil h1;obtain⟨vs,h4,h5⟩:=res_list hS h2;exact⟨_::vs,by rw [DenL];exact⟨_,_,rfl,h3,h4⟩,by rw [List.mapM_cons];simp [rdR,h5]⟩
   ·cases h
 |.cell t T::r,l,h=>by
   simp only [resV]at h;split at h
   ·rename_i i l' h1 h2;split at h
    ·rename_i s hl;cases h;obtain⟨_,h3⟩:=hS.toSatF.slot holds_nil h1;obtain⟨b,v,hb,h6,h7⟩:=loc_var hS.toSatH h3 hl;obtain⟨vs,h4,h5⟩:=res_list hS h2;refine⟨v::vs,by rw [DenL];exact⟨_,_,rfl,h6,h4⟩,?_⟩
     rw [List.mapM_cons];simp only [rdR,Sem.run_bind,hb,asAddr,Sem.run_pure,Result.andThen_ok,h7 _ (Ext.refl _),h5]
    ·cases h
   ·cases h
theorem res_ok (hS:Sat C σ m ids a) {fn:Func} {l:List SV} (h:resV E σ fn.results.toList=some l):∃ v,Den m ids (pack l) v∧(results fn a.tmps).run E.P m.w=.ok v m.w:=by
 obtain⟨vs,h1,h2⟩:=res_list hS h
 have hm:(fn.results.mapM (rdR a.tmps)).run E.P m.w=.ok vs.toArray m.w:=by
   rw [Array.mapM_eq_mapM_toList,← bind_pure_comp,Sem.run_bind,h2];rfl
 have hr:(results fn a.tmps).run E.P m.w=.ok (if h:vs.toArray.size=1 then vs.toArray[0]else .tuple vs.toArray) m.w:=by
   have hu:results fn a.tmps=(do let vs ← fn.results.mapM (rdR a.tmps);pure (if h:vs.size=1 then vs[0]else .tuple vs)):=by
     unfold results
     congr 2
   rw [hu,Sem.run_bind,hm];rfl
 refine⟨_,?_,hr⟩;have hl:=h1.length
 match l,vs,h1 with
 |[],[],h1 =>
   show Den m ids (.tup []) (.tuple #[]);rw [Den];exact⟨[],rfl,h1⟩
 |[s],[v],h1=>rw [DenL]at h1;obtain⟨u,us,e,h2,_⟩:=h1;cases e;exact h2
 |s::t::r,u::v::q,h1 =>
   have:¬ (u::v::q).toArray.size=1:=by simp
   rw [dif_neg this];show Den m ids (.tup (s::t::r)) _;rw [Den];exact⟨_,rfl,h1⟩
theorem calls_vc (hm:∀ b,m.S b→b<m.w.heap.size) (hG:Glob E.G m) {H:List (Nat×HB)} {args:List SV} {vs:List Value} {f:FuncId} {fn:Func} {c:Code} {N n:Nat} (hn:ids.length=n) (hH:HeapOK m ids H) (hv:DenL m ids args vs)
   (hf:E.P.funcs[f]?=some fn) (hb:fn.body=some c) (hN:fn.ntmps=N) (hl:Nat.ble (len args) N=true) {Q:SV→St→Prop} (h:vc E DB N c (entS args H n) (retQ E fn.results.toList Q)) :
   Calls E.P f vs.toArray m.w fun e w'=>∃ v σ S ids' a s,e=.returned v∧Sat ⟨[],N,m.w,HT ids H,m.S,ids,E.G⟩ σ ⟨w',S⟩ ids' a∧Den ⟨w',S⟩ ids' s v∧Q s σ:=by
 have hlv:=hv.length;have hl:=Nat.le_of_ble_eq_true hl;rw [len_eq]at hl;have hsz:(vs.toArray++Array.replicate (fn.ntmps-vs.toArray.size) undef).size=N:=by simp;omega
 have argG:∀ (as_:List SV) (us:List Value) (k t:Nat) (s:SV),DenL m ids as_ us→lk (argE k as_) t=some s→k≤t∧∃ u,us[t-k]?=some u∧Den m ids s u:=by
   intro as_
   induction as_ with
   |nil=>intro us k t s _ h;cases h
   |cons x r ih =>
     intro us k t s hd h;rw [DenL]at hd;obtain⟨u,us',rfl,h1,h2⟩:=hd;rw [argE,lk_cons]at h;split at h
     ·rename_i e;subst e;cases h;exact⟨Nat.le_refl _,u,by simp,h1⟩
     ·obtain⟨h3,u',h4,h5⟩:=ih us' (k+1) t s h2 h;refine⟨by omega,u',?_,h5⟩
      rw [show t-k=(t-(k+1))+1 by omega,List.getElem?_cons_succ]
      exact h4
 have hS0:Sat ⟨[],N,m.w,HT ids H,m.S,ids,E.G⟩ (entS args H n) m ids { tmps:=vs.toArray++Array.replicate (fn.ntmps-vs.toArray.size) undef,defers:=[] }:=by
   refine⟨⟨hn,hH,fun i hb b hi hf=>.inl ⟨i,hb,hi,hf⟩,fun _ h=>h,fun b hb=>⟨hm b hb,.inl hb⟩,(Ext.refl _).mod _,hG,hn,fun _ _=>rfl⟩,hsz,rfl,fun t s hl=>?_,fun t π s hl=>(by cases hl),fun s b hl=>(by cases hl)⟩
   obtain⟨_,u,h1,h2⟩:=argG args vs 0 t s hv hl;rw [Nat.sub_zero]at h1;have hlt:=(List.getElem?_eq_some_iff.1 h1).1;refine⟨by show t<N;omega,?_⟩
   rw [Array.getD_eq_getD_getElem?,Array.getElem?_append,if_pos (by simpa using hlt)]
   simp only [List.getElem?_toArray,h1,Option.getD_some];exact h2
 refine calls_of_wp hf hb (wpIn_wide.1 (wpIn_mono (vc_ok (ro:=none) rfl c hS0 h) fun e a' w' h'=>?_))
 obtain⟨σ,S,ids',h1,h2⟩:=h'
 have key:(match resV E σ fn.results.toList with
   |some l=>Q (pack l) σ
   |none=>False)→a'.defers=[]∧∃ v,(results fn a'.tmps).run E.P w'=.ok v w'∧∃ v' σ S ids' a s,Ending.returned v=.returned v'∧Sat ⟨[],N,m.w,HT ids H,m.S,ids,E.G⟩ σ ⟨w',S⟩ ids' a∧Den ⟨w',S⟩ ids' s v'∧Q s σ:=fun h=>by
   split at h
   ·rename_i l hl;obtain⟨v,h3,h4⟩:=res_ok h1 hl;exact⟨h1.defers,v,h4,v,σ,S,ids',a',_,rfl,h1,h3,h⟩
   ·exact h.elim
 cases e with
 |ret=>exact key h2
 |normal=>exact key h2
 |_=>exact h2.elim
structure Inl (E:En) where
 f:FuncId
 fn:Func
 c:Code
 N:Nat
 rs:List ResultVar
 hf:E.P.funcs[f]?=some fn
 hb:fn.body=some c
 hN:fn.ntmps=N
 hr:fn.results.toList=rs
 ok:FnOK E.P f
def bodyOf (fn:Func):Code:=match fn.body with
 |some c=>c
 |none=>.skip
theorem body_of {fn:Func} (h:fn.body.isSome=true):fn.body=some (bodyOf fn):=by
 unfold bodyOf
 cases hb:fn.body with
 |none=>rw [hb]at h;cases h
 |some c=>rfl
@[reducible] def Inl.of {E:En} (f:FuncId) (fn:Func) (hf:E.P.funcs[f]?=some fn) (hs:fn.body.isSome=true) (ok:FnOK E.P f):Inl E:=⟨f,fn,bodyOf fn,fn.ntmps,fn.results.toList,hf,body_of hs,rfl,rfl,ok⟩
def icI (E:En) (D:Db E) (I:Inl E) (args:List SV) (σ:St) (K:SV→St→Prop):Prop:=match Nat.ble (len args) I.N with
 |true=>deepS (entS args σ.heap σ.nb) fun σ1=>vc E D I.N I.c σ1 (retQ E I.rs K)
 |false=>False
def icC (E:En) (D:Db E) (I:Inl E) (f:FuncId):Option (List SV→St→(SV→St→Prop)→Prop):=match Nat.beq I.f f with
 |true=>some (icI E D I)
 |false=>D.ic f
theorem icC_ok (D:Db E) (I:Inl E):ICOK E (icC E D I):=by
 intro f g hg args σ K m ids vs hG hm hn hH hv h;unfold icC at hg;split at hg
 ·rename_i hb;cases hg;have hb:=Nat.eq_of_beq_eq_true hb;subst hb;unfold icI at h;split at h
  ·rename_i hl;rw [deepS_eq]at h;refine⟨I.ok,(calls_vc (Q:=K) hm hG hn hH hv I.hf I.hb I.hN hl (by rw [I.hr];exact h)).mono fun e w' ⟨v,σ',S,ids',a,s,he,hS,hd,hK⟩=>?_⟩
   have hmod:=hS.mod;exact⟨v,S,ids',s,σ',he,hK,hmod,⟨fun b hb=>⟨hS.S0 b hb,hmod.block b (hm b hb) fun⟨i,hb0,hi,hf0⟩=>hH.fpS i hb0 b hi hf0 hb⟩,hmod.size⟩,hS.S,fun i hi=>by rw [hS.pre i (by have:=hS.n0;simp only at this;omega)],hS.len,hS.heap,fun b ⟨i,hb0,hi,hf0⟩=>hS.low i hb0 b hi hf0,hd⟩
  ·cases h
 ·exact D.ok f g hg args σ K m ids vs hG hm hn hH hv h
structure Wk (E:En) where
 f:FuncId
 app:List SV→(SV→Prop)→Prop
 fn:FnOK E.P f
 ok:∀ args (m:Mm) (ids vs:List Value) (K:SV→Prop),Glob E.G m→(∀ b,m.S b→b<m.w.heap.size)→DenL m ids args vs→app args K →
   Calls E.P f vs.toArray m.w fun e w'=>∃ v S' s,e=.returned v∧K s∧Ext m.w w'∧m.le ⟨w',S'⟩∧(∀ b,S' b→b<w'.heap.size∧(m.S b∨m.w.heap.size≤b))∧Den ⟨w',S'⟩ [] s v
def st0 (σ:St):St:={ env:=[],gen:=[],kn:=[],heap:=σ.heap,nb:=σ.nb,n0:=σ.nb }
def icW (E:En) (W:Wk E) (args:List SV) (σ:St) (K:SV→St→Prop):Prop:=W.app (vwL (frz (st0 σ) (frL (st0 σ) args)) args) fun s=>K s (frz (st0 σ) (frL (st0 σ) args))
def icCW (E:En) (D:Db E) (W:Wk E) (f:FuncId):Option (List SV→St→(SV→St→Prop)→Prop):=match Nat.beq W.f f with
 |true=>some (icW E W)
 |false=>D.ic f
theorem icCW_ok (D:Db E) (W:Wk E):ICOK E (icCW E D W):=by
 intro f g hg args σ K m ids vs hG hm hn hH hv h;unfold icCW at hg;split at hg
 ·rename_i hb;cases hg;have hb:=Nat.eq_of_beq_eq_true hb;subst hb;unfold icW at h
  have hS0:Sat ⟨[],0,m.w,HT ids σ.heap,m.S,ids,E.G⟩ (st0 σ) m ids { tmps:=#[],defers:=[] } :=
    ⟨⟨hn,hH,fun i hb b hi hf=>.inl ⟨i,hb,hi,hf⟩,fun _ h=>h,fun b hb=>⟨hm b hb,.inl hb⟩,(Ext.refl _).mod _,hG,hn,fun _ _=>rfl⟩,rfl,rfl,fun t s hl=>(by cases hl),fun t π s hl=>(by cases hl),fun s b hl=>(by cases hl)⟩
  obtain⟨S1,h1,h2⟩:=hS0.frz (frL (st0 σ) args);refine⟨W.fn,(W.ok _ ⟨m.w,S1⟩ ids vs _ h2.glob (fun b hb=>(h2.S b hb).1) (vwL_den h2 (DenL.le h1 args hv)) h).mono fun e w' ⟨v,S',s,he,hK,hx,hle,hS',hd⟩=>?_⟩
  have hS:=h2.grow hx hle hS';have hmod:=hS.mod;have hd2:=Den.app (ids:=[]) ids s hd;exact⟨v,S',ids,s,_,he,hK,hmod,⟨fun b hb=>⟨hS.S0 b hb,hmod.block b (hm b hb) fun⟨i,hb0,hi,hf0⟩=>hH.fpS i hb0 b hi hf0 hb⟩,hmod.size⟩,hS.S,fun i _=>rfl,hS.len,hS.heap,fun b ⟨i,hb0,hi,hf0⟩=>hS.low i hb0 b hi hf0,by simpa using hd2⟩
 ·exact D.ok f g hg args σ K m ids vs hG hm hn hH hv h
def mkDbW {E:En} (facts:List (Fact E)):List (Wk E)→Db E
 |[]=>⟨facts,fun _=>none,fun _ _ h=>by cases h⟩
 |W::r=>⟨facts,icCW E (mkDbW facts r) W,icCW_ok (mkDbW facts r) W⟩
def mkDb {E:En} (facts:List (Fact E)) (ws:List (Wk E)):List (Inl E)→Db E
 |[]=>mkDbW facts ws
 |I::r=>⟨facts,icC E (mkDb facts ws r) I,icC_ok (mkDb facts ws r) I⟩
theorem bs:(∀ n:Nat,(n:Int).toNat=n)∧(∀ (p:Prop) [Decidable p],(decide p=true)=p)∧(∀ (p:Prop) [Decidable p],(decide p=false) = ¬ p)∧(∀ a b:Bool,((a&&b)=true)=(a=true∧b=true))∧(∀ a b:Bool,((a||b)=true)=(a=true∨b=true)) ∧
   (∀ a:Bool,((!a)=true)=(a=false))∧(∀ a:Bool,((!a)=false)=(a=true))∧(∀ a b:Bool,((a&&b)=false)=(a=false∨b=false))∧(∀ a b:Bool,((a||b)=false)=(a=false∧b=false))∧((true=true)=True)∧((false=false)=True)∧((true=false)=False)∧((false=true)=False) ∧
   (∀ p:Prop,(True∧p)=p)∧(∀ p:Prop,(p∧True)=p)∧(∀ p:Prop,(False∧p)=False)∧(∀ p:Prop,(p∧False)=False)∧(∀ p:Prop,(True∨p)=True)∧(∀ p:Prop,(p∨True)=True)∧(∀ p:Prop,(False∨p)=p)∧(∀ p:Prop,(p∨False)=p)∧(∀ p:Prop,(True→p)=p)∧(∀ p:Prop,(False→p)=True) :=
 ⟨Int.toNat_natCast,fun _=>decide_eq_true_eq,fun p _=>propext decide_eq_false_iff_not,Bool.and_eq_true,Bool.or_eq_true,by decide,by decide,by decide,by decide,by decide,by decide,by decide,by decide,true_and,and_true,false_and,and_false,true_or,or_true,false_or,or_false,fun p=>propext ⟨fun h=>h trivial,fun h _=>h⟩,fun p=>propext ⟨fun _=>trivial,fun _ h=>h.elim⟩⟩
theorem eq_ct {α:Type} {v a b:α} {q:Bool} (h:q=true) (e:v=a):v=bif q then a else b:=by rw [h];exact e
theorem eq_cf {α:Type} {v a b:α} {q:Bool} (h:q=false) (e:v=b):v=bif q then a else b:=by rw [h];exact e
theorem eq_it {α:Type} {v a b:α} {q:Prop} [Decidable q] (h:q) (e:v=a):v=if q then a else b:=by rw [if_pos h];exact e
theorem eq_ie {α:Type} {v a b:α} {q:Prop} [Decidable q] (h:¬ q) (e:v=b):v=if q then a else b:=by rw [if_neg h];exact e
def know:List SV→Prop
 |[]=>True
 |.i n::r=>InR n∧know r
 |.str t::r=>(t.size:Int)≤9223372036854775807∧know r
 |.lst _ c l::r=>(l.length*BT c≤140737488355328∧l.length≤140737488355328)∧know r
 |_::r=>know r
theorem know_ok:∀ {args:List SV} {vs:List Value},DenL m ids args vs→know args
 |[],_,_=>trivial
 |s::r,vs,h=>by
   rw [DenL]at h;obtain⟨u,us,rfl,h1,h2⟩:=h;have ih:=know_ok h2
   cases s with
   |i n=>rw [Den]at h1;exact⟨h1.2,ih⟩
   |str t=>rw [Den]at h1;exact⟨h1.2,ih⟩
   |lst z c l=>rw [Den]at h1;obtain⟨_,_,_,_,_,h6⟩:=h1;exact⟨⟨h6,len_le h6⟩,ih⟩
   |_=>exact ih
theorem calls_fact {DB:List (Fact E)} {IL:List (Inl E)} {WL:List (Wk E)} {args:List SV} {s:SV} {f:FuncId} {fn:Func} {c:Code} {N:Nat} (hf:E.P.funcs[f]?=some fn) (hb:fn.body=some c) (hN:fn.ntmps=N) (hl:Nat.ble (len args) N=true) (hna:nfL args=true) (hns:nf s=true)
   (h:know args→deepS (entS args [] 0) fun σ=>vc E (mkDb DB WL IL) N c σ (retQ E fn.results.toList fun s' σ=>leS (vw (frz σ (frN σ s')) s') s)) (m:Mm) (ids vs:List Value) (hG:Glob E.G m) (hm:∀ b,m.S b→b<m.w.heap.size) (hv:DenL m ids args vs) :
   Calls E.P f vs.toArray m.w fun e w'=>∃ v S',e=.returned v∧Ext m.w w'∧m.le ⟨w',S'⟩∧(∀ b,S' b→b<w'.heap.size∧(m.S b∨m.w.heap.size≤b))∧Den ⟨w',S'⟩ [] s v:=by
 have h:=h (know_ok hv);rw [deepS_eq]at h;refine(calls_vc (ids:=[]) (H:=[]) hm hG rfl ⟨fun i hb hi=>(by cases hi),fun i hb j hb' hi=>(by cases hi),fun i hb b hi=>(by cases hi)⟩ (nfL_den hna hv) hf hb hN hl h).mono fun e w' ⟨v,σ,S,ids',a,s',he,hS,hd,hle⟩=>?_
 obtain⟨S',h1,h2⟩:=hS.frz (frN σ s');have hT:∀ b,¬ HT [] ([]:List (Nat×HB)) b:=fun b ⟨i,hb,hi,_⟩=>by cases hi
 have hmod:=h2.mod;have hext:Ext m.w w':=⟨hmod.os,hmod.tape,hmod.output,hmod.size,fun k hk=>hmod.block k hk (hT k)⟩
 refine⟨v,S',he,hext,⟨fun b hb=>⟨h2.S0 b hb,hext.block b (hm b hb)⟩,hext.size⟩,fun b hb=>⟨(h2.S b hb).1,?_⟩,?_⟩
 ·rcases(h2.S b hb).2 with q|q|q
  ·exact .inl q
  ·exact absurd q (hT b)
  ·exact .inr q
 ·exact nf_den hns (leS_ok _ _ hle (vw_den h2 (Den.le h1 _ hd)))
def retH (n:Nat) (R:SV→List (Nat×HB)→Nat→Prop) (s:SV) (σ:St):Prop :=
 ∃ (fs:List Nat) (nl:List (Nat×TypeId×Nat)) (s2:SV) (H2:List (Nat×HB)) (r:List Nat),R s2 H2 (n+len r)∧deepS (frz (nilz nl σ) fs) fun σ1=>leS (vw σ1 s) (ren n σ1.nb r s2)∧meets n r σ1 { env:=[],gen:=[],kn:=[],heap:=H2,nb:=n+len r,n0:=n }
theorem calls_hc {DB:List (Fact E)} {IL:List (Inl E)} {WL:List (Wk E)} {n:Nat} {args:List SV} {H:List (Nat×HB)} {R:SV→List (Nat×HB)→Nat→Prop} {f:FuncId} {fn:Func} {c:Code} {N:Nat} (hf:E.P.funcs[f]?=some fn) (hb:fn.body=some c) (hN:fn.ntmps=N) (hl:Nat.ble (len args) N=true) (hfn:FnOK E.P f)
   (h:know args→deepS (entS args H n) fun σ=>vc E (mkDb DB WL IL) N c σ (retQ E fn.results.toList (retH n R))):HC E f n args H R:=by
 refine⟨hfn,fun m ids vs hG hm hn hH hv=>?_⟩
 have h0:=h (know_ok hv);rw [deepS_eq]at h0;refine(calls_vc hm hG hn hH hv hf hb hN hl h0).mono fun e w' ⟨v,σ,S,ids',a,s',he,hS,hd,fs,nl,s2,H2,r,hR,hle⟩=>?_
 rw [deepS_eq]at hle;obtain⟨hle,hmt⟩:=hle;obtain⟨ids1,S1,k1,k2,k3⟩:=nilz_ok nl hS;have hd:=k3 _ _ hd;obtain⟨S',h1,h2⟩:=k1.frz fs;obtain⟨ids2,h3,hrr⟩:=meets_ok h2 rfl rfl hmt;have hlen:ids2.length=n+len r:=h3.len;have hmod:=h3.mod;refine⟨v,S',ids2,s2,H2,he,by rw [hlen];exact hR,hmod,⟨fun b hb=>⟨h3.S0 b hb,hmod.block b (hm b hb) fun⟨i,hb0,hi,hf0⟩=>hH.fpS i hb0 b hi hf0 hb⟩,hmod.size⟩,h3.S,fun i hi=>h3.pre i hi,by omega,h3.heap,fun b ⟨i,hb0,hi,hf0⟩=>h3.low i hb0 b hi hf0,?_⟩
 exact Den.unren hrr s2 (leS_ok _ _ hle (vw_den h2 (Den.le h1 _ hd)))
end
mutual
def coe:SV→SV→SV
 |.lst _ c _,s=>match s with
   |.v (.slice none 0 0)=>.lst (some true) c []
   |s=>s
 |.agg p,s=>match s with
   |.agg l=>.agg (coeL p l)
   |s=>s
 |.fp p _,s=>match s with
   |.fp l o=>.fp (coeL p l) o
   |s=>s
 |.fsl p,s=>match s with
   |.fsl l=>.fsl (coeL p l)
   |s=>s
 |.clo _ p q,s=>match s with
   |.clo f a b=>.clo f (coeL p a) (coeL q b)
   |s=>s
 |_,s=>s
def coeL:List SV→List SV→List SV
 |[],l=>l
 |p::r,l=>match l with
   |[]=>[]
   |s::q=>coe p s::coeL r q
end
section
variable {m:Mm} {ids:List Value}
mutual
theorem coe_den:∀ (p s:SV) {y:Value},Den m ids s y→Den m ids (coe p s) y:=by
 intro p s y hd;cases p<;>simp only [coe]<;>try exact hd
 case lst =>
   split
   ·cases den_v hd;rw [den_lst];exact⟨[],⟨by simp,.inl ⟨⟨_,rfl⟩,rfl⟩⟩,Elts.nil,fun h=>absurd rfl h,rfl,by simp⟩
   ·exact hd
 case agg p =>
   split
   ·rw [Den]at hd ⊢;obtain⟨us,h1,h2⟩:=hd;exact⟨us,h1,coeL_den p _ h2⟩
   ·exact hd
 case fp p _ =>
   split
   ·rw [Den]at hd ⊢;obtain⟨b,q,us,h1,h2,h3,h4⟩:=hd;exact⟨b,q,us,h1,h2,h3,coeL_den p _ h4⟩
   ·exact hd
 case fsl p =>
   split
   ·rw [Den]at hd ⊢;obtain⟨b,q,us,h1,h0,h2,h3,h4⟩:=hd;exact⟨b,q,us,h1,h0,h2,h3,coeL_den p _ h4⟩
   ·exact hd
 case clo f p q =>
   split
   ·rw [Den]at hd ⊢;obtain⟨us,vs,h1,h2,h3⟩:=hd;exact⟨us,vs,h1,coeL_den p _ h2,coeL_den q _ h3⟩
   ·exact hd
theorem coeL_den:∀ (p l:List SV) {us:List Value},DenL m ids l us→DenL m ids (coeL p l) us:=by
 intro p l us hd
 cases p with
 |nil=>simp only [coeL];exact hd
 |cons p r =>
   simp only [coeL]
   cases l with
   |nil=>exact hd
   |cons s q =>
     rw [DenL]at hd ⊢;obtain⟨u,us',h1,h2,h3⟩:=hd;exact⟨u,us',h1,coe_den p s h2,coeL_den r q h3⟩
end
end
@[reducible] def Fact.co {E:En} (p:List SV) (F:Fact E):Fact E:=⟨F.f,fun args=>F.app (coeL p args),F.fn,fun args m ids vs hG hm hv=>F.ok _ m ids vs hG hm (coeL_den p args hv)⟩
@[reducible] def Wk.co {E:En} (p:List SV) (W:Wk E):Wk E:=⟨W.f,fun args=>W.app (coeL p args),W.fn,fun args m ids vs K hG hm hv=>W.ok _ m ids vs K hG hm (coeL_den p args hv)⟩
theorem gK {E:En} {DB:Db E} {N:Nat} {a:Code} {σ:St} {K:Exit→St→Prop} (h:∀ K',K=K'→deepS σ fun σ1=>vc E DB N a σ1 K'):deepS σ fun σ1=>vc E DB N a σ1 K:=h K rfl
theorem gKe {K K':Exit→St→Prop} {e:Exit} {σ:St} (h:K=K') (H:K e σ):K' e σ:=h▸H
theorem bc_ {G:Prop} (h:¬ G→False):G:=Classical.byContradiction h
end Go.SX
namespace Go.SX
theorem leS_q {s t:SV} (h:s=t):leS s t:=h▸leS_rf s
end Go.SX
